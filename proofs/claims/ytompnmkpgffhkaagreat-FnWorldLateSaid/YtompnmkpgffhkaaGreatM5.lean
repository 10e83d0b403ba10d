/- Part 5 of the proof: texts one behind the other. -/
import Derived.Test.YtompnmkpgffhkaaGreatM4
/- The program's words for outsiders. -/
set_option linter.unusedVariables false
set_option linter.unusedSimpArgs false
namespace Go.Proofs.YtompnmkpgffhkaaGreat
open Go Go.Wt
theorem gdOf {l : List Vote} (ho : votesOk l = true) (hl : l.length ≤ 1000) : Gd l := ⟨hl, votesOk_mem ho⟩
theorem treeLong_ct (l : List Vote) (ho : votesOk l = true) (hl : l.length ≤ 1000) : CtP Tryz.prog 36 [.v l] (.v ((tipOf l).length : Int)) := by
  have hg := gdOf ho hl
  refine Ct.intro Tryz.func36 rfl rfl ?_
  all_goals first | refine awp_seq (awp_region (id := 0) ?_) | refine awp_seq (awp_seq (awp_region (id := 0) ?_)) | refine awp_region (id := 0) ?_ | refine awp_seq (awp_seq (awp_seq (awp_region (id := 0) ?_)))
  all_goals refine awpOps_cons (op_as rfl (Conv.of rfl) rfl) ?_
  all_goals refine awpOps_nil ?_
  all_goals first | refine awp_seq (awp_region (id := 1) ?_) | refine awp_seq (awp_seq (awp_region (id := 1) ?_)) | refine awp_region (id := 1) ?_ | refine awp_seq (awp_seq (awp_seq (awp_region (id := 1) ?_)))
  all_goals first | refine awpOps_cons (op_mv rfl (Conv.of rfl) rfl) ?_ | refine awpOps_cons (op_mvl rfl rfl rfl rfl) ?_ | refine awpOps_cons (op_mvo rfl rfl rfl rfl) ?_
  all_goals refine awpOps_cons (op_call fb55 (.cons rfl (Conv.of rfl) (.nil _)) (votesOk_ct _) (argOk rfl rfl argOk0) rfl rfl) ?_
  all_goals refine awpOps_cons (op_not rfl rfl) ?_
  all_goals refine awpOps_nil ?_
  first | refine awp_seq (awp_cond rfl (fun h => absurd (not_t h) (by rw [ho]; decide)) (fun h => ?_)) | refine awp_seq (awp_seq (awp_cond rfl (fun h => absurd (not_t h) (by rw [ho]; decide)) (fun h => ?_))) | refine awp_cond rfl (fun h => absurd (not_t h) (by rw [ho]; decide)) (fun h => ?_) | refine awp_seq (awp_seq (awp_seq (awp_cond rfl (fun h => absurd (not_t h) (by rw [ho]; decide)) (fun h => ?_))))
  refine awp_skip ?_
  all_goals first | refine awp_seq (awp_region (id := 3) ?_) | refine awp_seq (awp_seq (awp_region (id := 3) ?_)) | refine awp_region (id := 3) ?_ | refine awp_seq (awp_seq (awp_seq (awp_region (id := 3) ?_)))
  all_goals first | refine awpOps_cons (op_mv rfl (Conv.of rfl) rfl) ?_ | refine awpOps_cons (op_mvl rfl rfl rfl rfl) ?_ | refine awpOps_cons (op_mvo rfl rfl rfl rfl) ?_
  all_goals refine awpOps_cons (op_call fb75 (.cons rfl (Conv.of rfl) (.nil _)) (tip_ct _ hg.l hg.v) (argOk rfl rfl argOk0) rfl rfl) ?_
  all_goals first | refine awpOps_cons (op_len sl35 rfl rfl) ?_ | refine awpOps_cons (op_lenA sl35 rfl rfl rfl) ?_
  all_goals first | refine awpOps_cons (op_as rfl (Conv.of rfl) rfl) ?_ | refine awpOps_cons (op_asl rfl rfl rfl rfl) ?_ | refine awpOps_cons (op_aso rfl rfl rfl rfl) ?_
  all_goals refine awpOps_nil ?_
  refine awp_ret ?_
  repeat first | refine rt_seq ?_ | refine rt_block ?_
  exact finP (.v rfl (Conv.of rfl)) rfl rfl
theorem treeFinal_ct (l : List Vote) (ho : votesOk l = true) (hl : l.length ≤ 1000) : CtP Tryz.prog 20 [.v l] (.v (CList.mk (finalOf l))) := by
  have hg := gdOf ho hl
  refine Ct.intro Tryz.func20 rfl rfl ?_
  all_goals first | refine awp_seq (awp_region (id := 0) ?_) | refine awp_seq (awp_seq (awp_region (id := 0) ?_)) | refine awp_region (id := 0) ?_ | refine awp_seq (awp_seq (awp_seq (awp_region (id := 0) ?_)))
  all_goals refine awpOps_cons (op_as rfl (Conv.of rfl) rfl) ?_
  all_goals refine awpOps_nil ?_
  all_goals first | refine awp_seq (awp_region (id := 1) ?_) | refine awp_seq (awp_seq (awp_region (id := 1) ?_)) | refine awp_region (id := 1) ?_ | refine awp_seq (awp_seq (awp_seq (awp_region (id := 1) ?_)))
  all_goals first | refine awpOps_cons (op_mv rfl (Conv.of rfl) rfl) ?_ | refine awpOps_cons (op_mvl rfl rfl rfl rfl) ?_ | refine awpOps_cons (op_mvo rfl rfl rfl rfl) ?_
  all_goals refine awpOps_cons (op_call fb55 (.cons rfl (Conv.of rfl) (.nil _)) (votesOk_ct _) (argOk rfl rfl argOk0) rfl rfl) ?_
  all_goals refine awpOps_cons (op_not rfl rfl) ?_
  all_goals refine awpOps_nil ?_
  first | refine awp_seq (awp_cond rfl (fun h => absurd (not_t h) (by rw [ho]; decide)) (fun h => ?_)) | refine awp_seq (awp_seq (awp_cond rfl (fun h => absurd (not_t h) (by rw [ho]; decide)) (fun h => ?_))) | refine awp_cond rfl (fun h => absurd (not_t h) (by rw [ho]; decide)) (fun h => ?_) | refine awp_seq (awp_seq (awp_seq (awp_cond rfl (fun h => absurd (not_t h) (by rw [ho]; decide)) (fun h => ?_))))
  refine awp_skip ?_
  all_goals first | refine awp_seq (awp_region (id := 3) ?_) | refine awp_seq (awp_seq (awp_region (id := 3) ?_)) | refine awp_region (id := 3) ?_ | refine awp_seq (awp_seq (awp_seq (awp_region (id := 3) ?_)))
  all_goals first | refine awpOps_cons (op_mv rfl (Conv.of rfl) rfl) ?_ | refine awpOps_cons (op_mvl rfl rfl rfl rfl) ?_ | refine awpOps_cons (op_mvo rfl rfl rfl rfl) ?_
  all_goals refine awpOps_cons (op_call fb60 (.cons rfl (Conv.of rfl) (.nil _)) (vfinal_ct _ hg.l hg.v hg.e) (argOk rfl rfl argOk0) rfl rfl) ?_
  all_goals first | refine awpOps_cons (op_as rfl (Conv.of rfl) rfl) ?_ | refine awpOps_cons (op_asl rfl rfl rfl rfl) ?_ | refine awpOps_cons (op_aso rfl rfl rfl rfl) ?_
  all_goals refine awpOps_nil ?_
  refine awp_ret ?_
  repeat first | refine rt_seq ?_ | refine rt_block ?_
  exact finP (.v rfl (Conv.of rfl)) rfl rfl
theorem begins_ct (a b : List Itm) : CtP Tryz.prog 62 [.v a, .v b] (.v (inS a b)) := by
  refine Ct.intro Tryz.func62 rfl rfl ?_
  all_goals first | refine awp_seq (awp_region (id := 0) ?_) | refine awp_seq (awp_seq (awp_region (id := 0) ?_)) | refine awp_region (id := 0) ?_ | refine awp_seq (awp_seq (awp_seq (awp_region (id := 0) ?_)))
  all_goals refine awpOps_cons (op_as rfl (Conv.of rfl) rfl) ?_
  all_goals refine awpOps_nil ?_
  all_goals first | refine awp_seq (awp_region (id := 1) ?_) | refine awp_seq (awp_seq (awp_region (id := 1) ?_)) | refine awp_region (id := 1) ?_ | refine awp_seq (awp_seq (awp_seq (awp_region (id := 1) ?_)))
  all_goals first | refine awpOps_cons (op_mv rfl (Conv.of rfl) rfl) ?_ | refine awpOps_cons (op_mvl rfl rfl rfl rfl) ?_ | refine awpOps_cons (op_mvo rfl rfl rfl rfl) ?_
  all_goals first | refine awpOps_cons (op_len sl35 rfl rfl) ?_ | refine awpOps_cons (op_lenA sl35 rfl rfl rfl) ?_
  all_goals first | refine awpOps_cons (op_mv rfl (Conv.of rfl) rfl) ?_ | refine awpOps_cons (op_mvl rfl rfl rfl rfl) ?_ | refine awpOps_cons (op_mvo rfl rfl rfl rfl) ?_
  all_goals first | refine awpOps_cons (op_len sl35 rfl rfl) ?_ | refine awpOps_cons (op_lenA sl35 rfl rfl rfl) ?_
  all_goals refine awpOps_cons (op_leq rfl rfl rfl) ?_
  all_goals first | refine awpOps_cons (op_mv rfl (Conv.of rfl) rfl) ?_ | refine awpOps_cons (op_mvl rfl rfl rfl rfl) ?_ | refine awpOps_cons (op_mvo rfl rfl rfl rfl) ?_
  all_goals first | refine g_lit (t := 10) (b := true) rfl ?_ | refine g_lit (t := 10) (b := false) rfl ?_ | refine g_ulit (t := 10) rfl ?_ | refine g_split (t := 10) rfl (fun h => ?_) (fun h => ?_)
  all_goals first | refine awpOps_cons (g_off rfl rfl rfl rfl rfl) ?_ | refine awpOps_cons (g_und rfl rfl rfl) ?_ | refine awpOps_cons (g_on rfl rfl rfl (op_mv rfl (Conv.of rfl) rfl)) ?_ | refine awpOps_cons (g_on rfl rfl rfl (op_mvl rfl rfl rfl rfl)) ?_ | refine awpOps_cons (g_on rfl rfl rfl (op_mvo rfl rfl rfl rfl)) ?_
  all_goals first | refine awpOps_cons (g_off rfl rfl rfl rfl rfl) ?_ | refine awpOps_cons (g_und rfl rfl rfl) ?_ | refine awpOps_cons (g_on rfl rfl rfl (op_mv rfl (Conv.of rfl) rfl)) ?_ | refine awpOps_cons (g_on rfl rfl rfl (op_mvl rfl rfl rfl rfl)) ?_ | refine awpOps_cons (g_on rfl rfl rfl (op_mvo rfl rfl rfl rfl)) ?_
  all_goals first | refine awpOps_cons (g_off rfl rfl rfl rfl rfl) ?_ | refine awpOps_cons (g_und rfl rfl rfl) ?_ | refine awpOps_cons (g_on rfl rfl rfl (op_mv rfl (Conv.of rfl) rfl)) ?_ | refine awpOps_cons (g_on rfl rfl rfl (op_mvl rfl rfl rfl rfl)) ?_ | refine awpOps_cons (g_on rfl rfl rfl (op_mvo rfl rfl rfl rfl)) ?_
  all_goals first | refine awpOps_cons (g_off rfl rfl rfl rfl rfl) ?_ | refine awpOps_cons (g_und rfl rfl rfl) ?_ | refine awpOps_cons (g_on rfl rfl rfl (op_len sl35 rfl rfl)) ?_ | refine awpOps_cons (g_on rfl rfl rfl (op_lenA sl35 rfl rfl rfl)) ?_
  all_goals first | refine awpOps_cons (g_off rfl rfl rfl rfl rfl) ?_ | refine awpOps_cons (g_und rfl rfl rfl) ?_ | refine awpOps_cons (g_on rfl rfl rfl (op_slh sl35 rfl rfl rfl ⟨by omega, by (have := of_decide_eq_true h; simp_all)⟩)) ?_
  all_goals first | refine awpOps_cons (g_off rfl rfl rfl rfl rfl) ?_ | refine awpOps_cons (g_und rfl rfl rfl) ?_ | refine awpOps_cons (g_on rfl rfl rfl (op_call fb116 (.cons rfl (Conv.of rfl) (.cons rfl (Conv.of rfl) (.nil _))) (equal_ct _ _) (argOk rfl rfl (argOk rfl rfl argOk0)) rfl rfl)) ?_
  all_goals refine awpOps_cons (op_pick rfl rfl rfl rfl) ?_
  all_goals first | refine awpOps_cons (op_as rfl (Conv.of rfl) rfl) ?_ | refine awpOps_cons (op_asl rfl rfl rfl rfl) ?_ | refine awpOps_cons (op_aso rfl rfl rfl rfl) ?_
  all_goals refine awpOps_nil ?_
  all_goals refine awp_ret ?_
  all_goals refine finP (.v rfl (Conv.of rfl)) rfl ?_
  all_goals (show AV.v _ = AV.v _; congr 1; unfold inS; simp_all; try (intro hh; omega))
theorem chainIn_ct (a b : List Itm) : CtP Tryz.prog 21 [.v a, .v b] (.v (chIn a b)) := by
  refine Ct.intro Tryz.func21 rfl rfl ?_
  all_goals first | refine awp_seq (awp_region (id := 0) ?_) | refine awp_seq (awp_seq (awp_region (id := 0) ?_)) | refine awp_region (id := 0) ?_ | refine awp_seq (awp_seq (awp_seq (awp_region (id := 0) ?_)))
  all_goals refine awpOps_cons (op_as rfl (Conv.of rfl) rfl) ?_
  all_goals refine awpOps_nil ?_
  all_goals first | refine awp_seq (awp_region (id := 1) ?_) | refine awp_seq (awp_seq (awp_region (id := 1) ?_)) | refine awp_region (id := 1) ?_ | refine awp_seq (awp_seq (awp_seq (awp_region (id := 1) ?_)))
  all_goals first | refine awpOps_cons (op_mv rfl (Conv.of rfl) rfl) ?_ | refine awpOps_cons (op_mvl rfl rfl rfl rfl) ?_ | refine awpOps_cons (op_mvo rfl rfl rfl rfl) ?_
  all_goals refine awpOps_cons (op_call fb61 (.cons rfl (Conv.of rfl) (.nil _)) (chainOk_ct _) (argOk rfl rfl argOk0) rfl rfl) ?_
  all_goals first | refine awpOps_cons (op_mv rfl (Conv.of rfl) rfl) ?_ | refine awpOps_cons (op_mvl rfl rfl rfl rfl) ?_ | refine awpOps_cons (op_mvo rfl rfl rfl rfl) ?_
  all_goals first | refine g_lit (t := 7) (b := true) rfl ?_ | refine g_lit (t := 7) (b := false) rfl ?_ | refine g_ulit (t := 7) rfl ?_ | refine g_split (t := 7) rfl (fun h => ?_) (fun h => ?_)
  all_goals first | refine awpOps_cons (g_off rfl rfl rfl rfl rfl) ?_ | refine awpOps_cons (g_und rfl rfl rfl) ?_ | refine awpOps_cons (g_on rfl rfl rfl (op_mv rfl (Conv.of rfl) rfl)) ?_ | refine awpOps_cons (g_on rfl rfl rfl (op_mvl rfl rfl rfl rfl)) ?_ | refine awpOps_cons (g_on rfl rfl rfl (op_mvo rfl rfl rfl rfl)) ?_
  all_goals first | refine awpOps_cons (g_off rfl rfl rfl rfl rfl) ?_ | refine awpOps_cons (g_und rfl rfl rfl) ?_ | refine awpOps_cons (g_on rfl rfl rfl (op_call fb61 (.cons rfl (Conv.of rfl) (.nil _)) (chainOk_ct _) (argOk rfl rfl argOk0) rfl rfl)) ?_
  all_goals refine awpOps_cons (op_pick rfl rfl rfl rfl) ?_
  all_goals first | refine awpOps_cons (op_mv rfl (Conv.of rfl) rfl) ?_ | refine awpOps_cons (op_mvl rfl rfl rfl rfl) ?_ | refine awpOps_cons (op_mvo rfl rfl rfl rfl) ?_
  all_goals first | refine g_lit (t := 11) (b := true) rfl ?_ | refine g_lit (t := 11) (b := false) rfl ?_ | refine g_ulit (t := 11) rfl ?_ | refine g_split (t := 11) rfl (fun h => ?_) (fun h => ?_)
  all_goals first | refine awpOps_cons (g_off rfl rfl rfl rfl rfl) ?_ | refine awpOps_cons (g_und rfl rfl rfl) ?_ | refine awpOps_cons (g_on rfl rfl rfl (op_mv rfl (Conv.of rfl) rfl)) ?_ | refine awpOps_cons (g_on rfl rfl rfl (op_mvl rfl rfl rfl rfl)) ?_ | refine awpOps_cons (g_on rfl rfl rfl (op_mvo rfl rfl rfl rfl)) ?_
  all_goals first | refine awpOps_cons (g_off rfl rfl rfl rfl rfl) ?_ | refine awpOps_cons (g_und rfl rfl rfl) ?_ | refine awpOps_cons (g_on rfl rfl rfl (op_mv rfl (Conv.of rfl) rfl)) ?_ | refine awpOps_cons (g_on rfl rfl rfl (op_mvl rfl rfl rfl rfl)) ?_ | refine awpOps_cons (g_on rfl rfl rfl (op_mvo rfl rfl rfl rfl)) ?_
  all_goals first | refine awpOps_cons (g_off rfl rfl rfl rfl rfl) ?_ | refine awpOps_cons (g_und rfl rfl rfl) ?_ | refine awpOps_cons (g_on rfl rfl rfl (op_call fb62 (.cons rfl (Conv.of rfl) (.cons rfl (Conv.of rfl) (.nil _))) (begins_ct _ _) (argOk rfl rfl (argOk rfl rfl argOk0)) rfl rfl)) ?_
  all_goals refine awpOps_cons (op_pick rfl rfl rfl rfl) ?_
  all_goals first | refine awpOps_cons (op_as rfl (Conv.of rfl) rfl) ?_ | refine awpOps_cons (op_asl rfl rfl rfl rfl) ?_ | refine awpOps_cons (op_aso rfl rfl rfl rfl) ?_
  all_goals refine awpOps_nil ?_
  all_goals refine awp_ret ?_
  all_goals refine finP (.v rfl (Conv.of rfl)) rfl ?_
  all_goals (show AV.v _ = AV.v _; congr 1; unfold chIn; simp_all)
theorem lwFits_ct (a b : List Itm) : CtP Tryz.prog 32 [.v a, .v b] (.v (fitsB a b)) := by
  refine Ct.intro Tryz.func32 rfl rfl ?_
  all_goals first | refine awp_seq (awp_region (id := 0) ?_) | refine awp_seq (awp_seq (awp_region (id := 0) ?_)) | refine awp_region (id := 0) ?_ | refine awp_seq (awp_seq (awp_seq (awp_region (id := 0) ?_)))
  all_goals refine awpOps_cons (op_as rfl (Conv.of rfl) rfl) ?_
  all_goals refine awpOps_nil ?_
  all_goals first | refine awp_seq (awp_region (id := 1) ?_) | refine awp_seq (awp_seq (awp_region (id := 1) ?_)) | refine awp_region (id := 1) ?_ | refine awp_seq (awp_seq (awp_seq (awp_region (id := 1) ?_)))
  all_goals first | refine awpOps_cons (op_mv rfl (Conv.of rfl) rfl) ?_ | refine awpOps_cons (op_mvl rfl rfl rfl rfl) ?_ | refine awpOps_cons (op_mvo rfl rfl rfl rfl) ?_
  all_goals first | refine awpOps_cons (op_mv rfl (Conv.of rfl) rfl) ?_ | refine awpOps_cons (op_mvl rfl rfl rfl rfl) ?_ | refine awpOps_cons (op_mvo rfl rfl rfl rfl) ?_
  all_goals refine awpOps_cons (op_call fb21 (.cons rfl (Conv.of rfl) (.cons rfl (Conv.of rfl) (.nil _))) (chainIn_ct _ _) (argOk rfl rfl (argOk rfl rfl argOk0)) rfl rfl) ?_
  all_goals first | refine awpOps_cons (op_mv rfl (Conv.of rfl) rfl) ?_ | refine awpOps_cons (op_mvl rfl rfl rfl rfl) ?_ | refine awpOps_cons (op_mvo rfl rfl rfl rfl) ?_
  all_goals first | refine g_lit (t := 8) (b := true) rfl ?_ | refine g_lit (t := 8) (b := false) rfl ?_ | refine g_ulit (t := 8) rfl ?_ | refine g_split (t := 8) rfl (fun h => ?_) (fun h => ?_)
  all_goals first | refine awpOps_cons (g_off rfl rfl rfl rfl rfl) ?_ | refine awpOps_cons (g_und rfl rfl rfl) ?_ | refine awpOps_cons (g_on rfl rfl rfl (op_mv rfl (Conv.of rfl) rfl)) ?_ | refine awpOps_cons (g_on rfl rfl rfl (op_mvl rfl rfl rfl rfl)) ?_ | refine awpOps_cons (g_on rfl rfl rfl (op_mvo rfl rfl rfl rfl)) ?_
  all_goals first | refine awpOps_cons (g_off rfl rfl rfl rfl rfl) ?_ | refine awpOps_cons (g_und rfl rfl rfl) ?_ | refine awpOps_cons (g_on rfl rfl rfl (op_mv rfl (Conv.of rfl) rfl)) ?_ | refine awpOps_cons (g_on rfl rfl rfl (op_mvl rfl rfl rfl rfl)) ?_ | refine awpOps_cons (g_on rfl rfl rfl (op_mvo rfl rfl rfl rfl)) ?_
  all_goals first | refine awpOps_cons (g_off rfl rfl rfl rfl rfl) ?_ | refine awpOps_cons (g_und rfl rfl rfl) ?_ | refine awpOps_cons (g_on rfl rfl rfl (op_call fb21 (.cons rfl (Conv.of rfl) (.cons rfl (Conv.of rfl) (.nil _))) (chainIn_ct _ _) (argOk rfl rfl (argOk rfl rfl argOk0)) rfl rfl)) ?_
  all_goals refine awpOps_cons (op_pick rfl rfl rfl rfl) ?_
  all_goals first | refine awpOps_cons (op_as rfl (Conv.of rfl) rfl) ?_ | refine awpOps_cons (op_asl rfl rfl rfl rfl) ?_ | refine awpOps_cons (op_aso rfl rfl rfl rfl) ?_
  all_goals refine awpOps_nil ?_
  all_goals refine awp_ret ?_
  all_goals refine finP (.v rfl (Conv.of rfl)) rfl ?_
  all_goals (show AV.v _ = AV.v _; congr 1; unfold fitsB; simp_all)
set_option maxHeartbeats 1000000 in
theorem lwAgreed_ct (w : Wrld) (hI : Inv w) : CtP Tryz.prog 18 [.v w] (.v true) := by
  have h4 := hI.ok.four
  refine Ct.intro Tryz.func18 rfl rfl ?_
  all_goals first | refine awp_seq (awp_region (id := 0) ?_) | refine awp_seq (awp_seq (awp_region (id := 0) ?_)) | refine awp_region (id := 0) ?_ | refine awp_seq (awp_seq (awp_seq (awp_region (id := 0) ?_)))
  all_goals first | refine awpOps_cons (op_box (o := 0) ty29 rfl (Conv.of rfl) rfl rfl) ?_ | refine awpOps_cons (op_boxm (o := 0) ty29 rfl rfl rfl rfl) ?_
  all_goals refine awpOps_cons (op_as rfl (Conv.of rfl) rfl) ?_
  all_goals refine awpOps_nil ?_
  all_goals first | refine awp_seq (awp_region (id := 1) ?_) | refine awp_seq (awp_seq (awp_region (id := 1) ?_)) | refine awp_region (id := 1) ?_ | refine awp_seq (awp_seq (awp_seq (awp_region (id := 1) ?_)))
  all_goals refine awpOps_cons (op_as rfl (Conv.of rfl) rfl) ?_
  all_goals refine awpOps_nil ?_
  first | refine awp_seq (awp_block ?_) | refine awp_seq (awp_seq (awp_block ?_)) | refine awp_block ?_ | refine awp_seq (awp_seq (awp_seq (awp_block ?_)))
  first | refine awp_seq (awp_loop' (fun n_ s => ∃ (i : Nat), ∃ (hn : n_ + i = 4), s = mkSt 47 [(1, .box 0 (IsLens.whole Wrld)), (3, .v (i : Int))] [(0, .cell w)]) (4) ⟨0, by omega, rfl⟩ (Le.mk rfl (tlb rfl rfl rfl (tle rfl (rfl) rfl tln)) (olk rfl (by first | exact obOk_cell | exact obOk_arr | exact obOkW rfl | exact obOkW0 | exact obOkN | exact obOkS rfl | exact obOkNs | exact obOkS0 | trivial) oln) noS) ?_) | refine awp_seq (awp_seq (awp_loop' (fun n_ s => ∃ (i : Nat), ∃ (hn : n_ + i = 4), s = mkSt 47 [(1, .box 0 (IsLens.whole Wrld)), (3, .v (i : Int))] [(0, .cell w)]) (4) ⟨0, by omega, rfl⟩ (Le.mk rfl (tlb rfl rfl rfl (tle rfl (rfl) rfl tln)) (olk rfl (by first | exact obOk_cell | exact obOk_arr | exact obOkW rfl | exact obOkW0 | exact obOkN | exact obOkS rfl | exact obOkNs | exact obOkS0 | trivial) oln) noS) ?_)) | refine awp_loop' (fun n_ s => ∃ (i : Nat), ∃ (hn : n_ + i = 4), s = mkSt 47 [(1, .box 0 (IsLens.whole Wrld)), (3, .v (i : Int))] [(0, .cell w)]) (4) ⟨0, by omega, rfl⟩ (Le.mk rfl (tlb rfl rfl rfl (tle rfl (rfl) rfl tln)) (olk rfl (by first | exact obOk_cell | exact obOk_arr | exact obOkW rfl | exact obOkW0 | exact obOkN | exact obOkS rfl | exact obOkNs | exact obOkS0 | trivial) oln) noS) ?_ | refine awp_seq (awp_seq (awp_seq (awp_loop' (fun n_ s => ∃ (i : Nat), ∃ (hn : n_ + i = 4), s = mkSt 47 [(1, .box 0 (IsLens.whole Wrld)), (3, .v (i : Int))] [(0, .cell w)]) (4) ⟨0, by omega, rfl⟩ (Le.mk rfl (tlb rfl rfl rfl (tle rfl (rfl) rfl tln)) (olk rfl (by first | exact obOk_cell | exact obOk_arr | exact obOkW rfl | exact obOkW0 | exact obOkN | exact obOkS rfl | exact obOkNs | exact obOkS0 | trivial) oln) noS) ?_)))
  rintro n_ s ⟨i, hn, rfl⟩
  all_goals first | refine awp_seq (awp_region (id := 2) ?_) | refine awp_seq (awp_seq (awp_region (id := 2) ?_)) | refine awp_region (id := 2) ?_ | refine awp_seq (awp_seq (awp_seq (awp_region (id := 2) ?_)))
  all_goals first | refine awpOps_cons (op_mv rfl (Conv.of rfl) rfl) ?_ | refine awpOps_cons (op_mvl rfl rfl rfl rfl) ?_ | refine awpOps_cons (op_mvo rfl rfl rfl rfl) ?_
  all_goals first | refine awpOps_cons (op_fab f29_1 rfl rfl) ?_ | refine awpOps_cons (op_far f29_1 rfl rfl) ?_ | refine awpOps_cons (op_fae f29_1 rfl rfl) ?_
  all_goals first | refine awpOps_cons (op_ld ty26 rfl rfl rfl) ?_ | refine awpOps_cons (op_ldr ty26 rfl rfl) ?_ | refine awpOps_cons (op_lde ty26 rfl rfl (by assumption) rfl) ?_ | refine awpOps_cons (op_ldl ty26 rfl rfl rfl) ?_ | refine awpOps_cons (op_ldd ty26 rfl rfl rfl) ?_ | refine awpOps_cons (op_ldde ty26 rfl rfl (by assumption) rfl) ?_
  all_goals first | refine awpOps_cons (op_len sl26 rfl rfl) ?_ | refine awpOps_cons (op_lenA sl26 rfl rfl rfl) ?_
  all_goals refine awpOps_cons (op_lss rfl rfl rfl) ?_
  all_goals refine awpOps_nil ?_
  first | refine awp_seq (awp_cond rfl (fun h => ?_) (fun h => ?_)) | refine awp_seq (awp_seq (awp_cond rfl (fun h => ?_) (fun h => ?_))) | refine awp_cond rfl (fun h => ?_) (fun h => ?_) | refine awp_seq (awp_seq (awp_seq (awp_cond rfl (fun h => ?_) (fun h => ?_))))
  · have hi : i < w.nodes.length := by simpa using h
    have hx : w.nodes[i]? = some w.nodes[i] := List.getElem?_eq_getElem hi
    generalize w.nodes[i] = a at hx
    have ha := nodeOk_seen (hI.ok.nodes a (List.mem_of_getElem? hx))
    refine awp_skip ?_
    first | refine awp_seq (awp_block ?_) | refine awp_seq (awp_seq (awp_block ?_)) | refine awp_block ?_ | refine awp_seq (awp_seq (awp_seq (awp_block ?_)))
    all_goals first | refine awp_seq (awp_region (id := 4) ?_) | refine awp_seq (awp_seq (awp_region (id := 4) ?_)) | refine awp_region (id := 4) ?_ | refine awp_seq (awp_seq (awp_seq (awp_region (id := 4) ?_)))
    all_goals refine awpOps_cons (op_as rfl (Conv.of rfl) rfl) ?_
    all_goals refine awpOps_nil ?_
    first | refine awp_seq (awp_seq (awp_seq (awp_seq_to (s' := mkSt 47 [(1, .box 0 (IsLens.whole Wrld)), (3, .v (i : Int))] [(0, .cell w)]) ?_ ?_))) | refine awp_seq (awp_seq (awp_seq_to (s' := mkSt 47 [(1, .box 0 (IsLens.whole Wrld)), (3, .v (i : Int))] [(0, .cell w)]) ?_ ?_)) | refine awp_seq (awp_seq_to (s' := mkSt 47 [(1, .box 0 (IsLens.whole Wrld)), (3, .v (i : Int))] [(0, .cell w)]) ?_ ?_) | refine awp_seq_to (s' := mkSt 47 [(1, .box 0 (IsLens.whole Wrld)), (3, .v (i : Int))] [(0, .cell w)]) ?_ ?_ | refine awp_toB (s' := mkSt 47 [(1, .box 0 (IsLens.whole Wrld)), (3, .v (i : Int))] [(0, .cell w)]) ?_ ?_ | refine awp_to (s' := mkSt 47 [(1, .box 0 (IsLens.whole Wrld)), (3, .v (i : Int))] [(0, .cell w)]) ?_ ?_
    · first | refine awp_seq (awp_block ?_) | refine awp_seq (awp_seq (awp_block ?_)) | refine awp_block ?_ | refine awp_seq (awp_seq (awp_seq (awp_block ?_)))
      first | refine awp_seq (awp_loop' (fun n_ s => ∃ (k : Nat), ∃ (hk : n_ + k = i), s = mkSt 47 [(1, .box 0 (IsLens.whole Wrld)), (3, .v (i : Int)), (4, .v (k : Int))] [(0, .cell w)]) (i) ⟨0, by omega, rfl⟩ (Le.mk rfl (tlb rfl rfl rfl (tle rfl (rfl) rfl (tle rfl (rfl) rfl tln))) (olk rfl (by first | exact obOk_cell | exact obOk_arr | exact obOkW rfl | exact obOkW0 | exact obOkN | exact obOkS rfl | exact obOkNs | exact obOkS0 | trivial) oln) noS) ?_) | refine awp_seq (awp_seq (awp_loop' (fun n_ s => ∃ (k : Nat), ∃ (hk : n_ + k = i), s = mkSt 47 [(1, .box 0 (IsLens.whole Wrld)), (3, .v (i : Int)), (4, .v (k : Int))] [(0, .cell w)]) (i) ⟨0, by omega, rfl⟩ (Le.mk rfl (tlb rfl rfl rfl (tle rfl (rfl) rfl (tle rfl (rfl) rfl tln))) (olk rfl (by first | exact obOk_cell | exact obOk_arr | exact obOkW rfl | exact obOkW0 | exact obOkN | exact obOkS rfl | exact obOkNs | exact obOkS0 | trivial) oln) noS) ?_)) | refine awp_loop' (fun n_ s => ∃ (k : Nat), ∃ (hk : n_ + k = i), s = mkSt 47 [(1, .box 0 (IsLens.whole Wrld)), (3, .v (i : Int)), (4, .v (k : Int))] [(0, .cell w)]) (i) ⟨0, by omega, rfl⟩ (Le.mk rfl (tlb rfl rfl rfl (tle rfl (rfl) rfl (tle rfl (rfl) rfl tln))) (olk rfl (by first | exact obOk_cell | exact obOk_arr | exact obOkW rfl | exact obOkW0 | exact obOkN | exact obOkS rfl | exact obOkNs | exact obOkS0 | trivial) oln) noS) ?_ | refine awp_seq (awp_seq (awp_seq (awp_loop' (fun n_ s => ∃ (k : Nat), ∃ (hk : n_ + k = i), s = mkSt 47 [(1, .box 0 (IsLens.whole Wrld)), (3, .v (i : Int)), (4, .v (k : Int))] [(0, .cell w)]) (i) ⟨0, by omega, rfl⟩ (Le.mk rfl (tlb rfl rfl rfl (tle rfl (rfl) rfl (tle rfl (rfl) rfl tln))) (olk rfl (by first | exact obOk_cell | exact obOk_arr | exact obOkW rfl | exact obOkW0 | exact obOkN | exact obOkS rfl | exact obOkNs | exact obOkS0 | trivial) oln) noS) ?_)))
      rintro n_ s ⟨k, hk, rfl⟩
      all_goals first | refine awp_seq (awp_region (id := 5) ?_) | refine awp_seq (awp_seq (awp_region (id := 5) ?_)) | refine awp_region (id := 5) ?_ | refine awp_seq (awp_seq (awp_seq (awp_region (id := 5) ?_)))
      all_goals first | refine awpOps_cons (op_mv rfl (Conv.of rfl) rfl) ?_ | refine awpOps_cons (op_mvl rfl rfl rfl rfl) ?_ | refine awpOps_cons (op_mvo rfl rfl rfl rfl) ?_
      all_goals first | refine awpOps_cons (op_mv rfl (Conv.of rfl) rfl) ?_ | refine awpOps_cons (op_mvl rfl rfl rfl rfl) ?_ | refine awpOps_cons (op_mvo rfl rfl rfl rfl) ?_
      all_goals refine awpOps_cons (op_lss rfl rfl rfl) ?_
      all_goals refine awpOps_nil ?_
      first | refine awp_seq (awp_cond rfl (fun h2 => ?_) (fun h2 => ?_)) | refine awp_seq (awp_seq (awp_cond rfl (fun h2 => ?_) (fun h2 => ?_))) | refine awp_cond rfl (fun h2 => ?_) (fun h2 => ?_) | refine awp_seq (awp_seq (awp_seq (awp_cond rfl (fun h2 => ?_) (fun h2 => ?_))))
      · have hk2 : k < i := by simpa using h2
        have hy : w.nodes[k]? = some (w.nodes[k]'(by omega)) := List.getElem?_eq_getElem (by omega)
        generalize w.nodes[k]'(by omega) = b at hy
        have hb := nodeOk_seen (hI.ok.nodes b (List.mem_of_getElem? hy))
        have hfit := fun e1 e2 => hI.agree hx hy e1 e2
        refine awp_skip ?_
        first | refine awp_seq (awp_block ?_) | refine awp_seq (awp_seq (awp_block ?_)) | refine awp_block ?_ | refine awp_seq (awp_seq (awp_seq (awp_block ?_)))
        first | refine awp_seq (awp_seq (awp_seq (awp_seq_to (s' := mkSt 47 [(1, .box 0 (IsLens.whole Wrld)), (3, .v (i : Int)), (4, .v (k : Int)), (46, .v false)] [(0, .cell w)]) ?_ ?_))) | refine awp_seq (awp_seq (awp_seq_to (s' := mkSt 47 [(1, .box 0 (IsLens.whole Wrld)), (3, .v (i : Int)), (4, .v (k : Int)), (46, .v false)] [(0, .cell w)]) ?_ ?_)) | refine awp_seq (awp_seq_to (s' := mkSt 47 [(1, .box 0 (IsLens.whole Wrld)), (3, .v (i : Int)), (4, .v (k : Int)), (46, .v false)] [(0, .cell w)]) ?_ ?_) | refine awp_seq_to (s' := mkSt 47 [(1, .box 0 (IsLens.whole Wrld)), (3, .v (i : Int)), (4, .v (k : Int)), (46, .v false)] [(0, .cell w)]) ?_ ?_ | refine awp_toB (s' := mkSt 47 [(1, .box 0 (IsLens.whole Wrld)), (3, .v (i : Int)), (4, .v (k : Int)), (46, .v false)] [(0, .cell w)]) ?_ ?_ | refine awp_to (s' := mkSt 47 [(1, .box 0 (IsLens.whole Wrld)), (3, .v (i : Int)), (4, .v (k : Int)), (46, .v false)] [(0, .cell w)]) ?_ ?_
        · all_goals first | refine awp_seq (dr_start (id := 7) ?_) | refine awp_seq (awp_seq (dr_start (id := 7) ?_)) | refine dr_start (id := 7) ?_ | refine awp_seq (awp_seq (awp_seq (dr_start (id := 7) ?_)))
          all_goals first | refine dr_cons (op_mv rfl (Conv.of rfl) rfl) ?_ | refine dr_cons (op_mvl rfl rfl rfl rfl) ?_ | refine dr_cons (op_mvo rfl rfl rfl rfl) ?_
          all_goals refine dr_cons (op_add rfl rfl rfl (by omega)) ?_
          all_goals first | refine dr_cons (op_fab f29_3 rfl rfl) ?_ | refine dr_cons (op_far f29_3 rfl rfl) ?_ | refine dr_cons (op_fae f29_3 rfl rfl) ?_
          all_goals first | refine dr_cons (op_ld ty3 rfl rfl rfl) ?_ | refine dr_cons (op_ldr ty3 rfl rfl) ?_ | refine dr_cons (op_lde ty3 rfl rfl (by assumption) rfl) ?_ | refine dr_cons (op_ldl ty3 rfl rfl rfl) ?_ | refine dr_cons (op_ldd ty3 rfl rfl rfl) ?_ | refine dr_cons (op_ldde ty3 rfl rfl (by assumption) rfl) ?_
          all_goals refine dr_cons (op_neq rfl rfl rfl) ?_
          all_goals first | refine dr_cons (op_mv rfl (Conv.of rfl) rfl) ?_ | refine dr_cons (op_mvl rfl rfl rfl rfl) ?_ | refine dr_cons (op_mvo rfl rfl rfl rfl) ?_
          all_goals first | refine dr_lit (t := 22) (b := true) rfl ?_ | refine dr_lit (t := 22) (b := false) rfl ?_ | refine dr_ulit (t := 22) rfl ?_ | refine dr_split (t := 22) rfl (fun h => ?_) (fun h => ?_)
          all_goals first | refine dr_cons (g_off rfl rfl rfl rfl rfl) ?_ | refine dr_cons (g_und rfl rfl rfl) ?_ | refine dr_cons (g_on rfl rfl rfl (op_mv rfl (Conv.of rfl) rfl)) ?_ | refine dr_cons (g_on rfl rfl rfl (op_mvl rfl rfl rfl rfl)) ?_ | refine dr_cons (g_on rfl rfl rfl (op_mvo rfl rfl rfl rfl)) ?_
          all_goals first | refine dr_cons (g_off rfl rfl rfl rfl rfl) ?_ | refine dr_cons (g_und rfl rfl rfl) ?_ | refine dr_cons (g_on rfl rfl rfl (op_add rfl rfl rfl (by omega))) ?_
          all_goals first | refine dr_cons (g_off rfl rfl rfl rfl rfl) ?_ | refine dr_cons (g_und rfl rfl rfl) ?_ | refine dr_cons (g_on rfl rfl rfl (op_fab f29_3 rfl rfl)) ?_ | refine dr_cons (g_on rfl rfl rfl (op_far f29_3 rfl rfl)) ?_ | refine dr_cons (g_on rfl rfl rfl (op_fae f29_3 rfl rfl)) ?_
          all_goals first | refine dr_cons (g_off rfl rfl rfl rfl rfl) ?_ | refine dr_cons (g_und rfl rfl rfl) ?_ | refine dr_cons (g_on rfl rfl rfl (op_ld ty3 rfl rfl rfl)) ?_ | refine dr_cons (g_on rfl rfl rfl (op_ldr ty3 rfl rfl)) ?_ | refine dr_cons (g_on rfl rfl rfl (op_lde ty3 rfl rfl (by assumption) rfl)) ?_ | refine dr_cons (g_on rfl rfl rfl (op_ldl ty3 rfl rfl rfl)) ?_ | refine dr_cons (g_on rfl rfl rfl (op_ldd ty3 rfl rfl rfl)) ?_ | refine dr_cons (g_on rfl rfl rfl (op_ldde ty3 rfl rfl (by assumption) rfl)) ?_
          all_goals first | refine dr_cons (g_off rfl rfl rfl rfl rfl) ?_ | refine dr_cons (g_und rfl rfl rfl) ?_ | refine dr_cons (g_on rfl rfl rfl (op_neq rfl rfl rfl)) ?_
          all_goals refine dr_cons (op_pick rfl rfl rfl rfl) ?_
          all_goals first | refine dr_cons (op_mv rfl (Conv.of rfl) rfl) ?_ | refine dr_cons (op_mvl rfl rfl rfl rfl) ?_ | refine dr_cons (op_mvo rfl rfl rfl rfl) ?_
          all_goals first | refine dr_lit (t := 29) (b := true) rfl ?_ | refine dr_lit (t := 29) (b := false) rfl ?_ | refine dr_ulit (t := 29) rfl ?_ | refine dr_split (t := 29) rfl (fun h => ?_) (fun h => ?_)
          all_goals first | refine dr_cons (g_off rfl rfl rfl rfl rfl) ?_ | refine dr_cons (g_und rfl rfl rfl) ?_ | refine dr_cons (g_on rfl rfl rfl (op_fab f29_1 rfl rfl)) ?_ | refine dr_cons (g_on rfl rfl rfl (op_far f29_1 rfl rfl)) ?_ | refine dr_cons (g_on rfl rfl rfl (op_fae f29_1 rfl rfl)) ?_
          all_goals first | refine dr_cons (g_off rfl rfl rfl rfl rfl) ?_ | refine dr_cons (g_und rfl rfl rfl) ?_ | refine dr_cons (g_on rfl rfl rfl (op_ld ty26 rfl rfl rfl)) ?_ | refine dr_cons (g_on rfl rfl rfl (op_ldr ty26 rfl rfl)) ?_ | refine dr_cons (g_on rfl rfl rfl (op_lde ty26 rfl rfl (by assumption) rfl)) ?_ | refine dr_cons (g_on rfl rfl rfl (op_ldl ty26 rfl rfl rfl)) ?_ | refine dr_cons (g_on rfl rfl rfl (op_ldd ty26 rfl rfl rfl)) ?_ | refine dr_cons (g_on rfl rfl rfl (op_ldde ty26 rfl rfl (by assumption) rfl)) ?_
          all_goals first | refine dr_cons (g_off rfl rfl rfl rfl rfl) ?_ | refine dr_cons (g_und rfl rfl rfl) ?_ | refine dr_cons (g_on rfl rfl rfl (op_mv rfl (Conv.of rfl) rfl)) ?_ | refine dr_cons (g_on rfl rfl rfl (op_mvl rfl rfl rfl rfl)) ?_ | refine dr_cons (g_on rfl rfl rfl (op_mvo rfl rfl rfl rfl)) ?_
          all_goals first | refine dr_cons (g_off rfl rfl rfl rfl rfl) ?_ | refine dr_cons (g_und rfl rfl rfl) ?_ | refine dr_cons (g_on rfl rfl rfl (op_ix sl26 rfl rfl rfl (by omega) hx)) ?_ | refine dr_cons (g_on rfl rfl rfl (op_ixA sl26 rfl rfl rfl rfl (by omega))) ?_
          all_goals first | refine dr_cons (g_off rfl rfl rfl rfl rfl) ?_ | refine dr_cons (g_und rfl rfl rfl) ?_ | refine dr_cons (g_on rfl rfl rfl (op_fab f39_3 rfl rfl)) ?_ | refine dr_cons (g_on rfl rfl rfl (op_far f39_3 rfl rfl)) ?_ | refine dr_cons (g_on rfl rfl rfl (op_fae f39_3 rfl rfl)) ?_
          all_goals first | refine dr_cons (g_off rfl rfl rfl rfl rfl) ?_ | refine dr_cons (g_und rfl rfl rfl) ?_ | refine dr_cons (g_on rfl rfl rfl (op_ld ty27 rfl rfl rfl)) ?_ | refine dr_cons (g_on rfl rfl rfl (op_ldr ty27 rfl rfl)) ?_ | refine dr_cons (g_on rfl rfl rfl (op_lde ty27 rfl rfl (by assumption) rfl)) ?_ | refine dr_cons (g_on rfl rfl rfl (op_ldl ty27 rfl rfl rfl)) ?_ | refine dr_cons (g_on rfl rfl rfl (op_ldd ty27 rfl rfl rfl)) ?_ | refine dr_cons (g_on rfl rfl rfl (op_ldde ty27 rfl rfl (by assumption) rfl)) ?_
          all_goals first | refine dr_cons (g_off rfl rfl rfl rfl rfl) ?_ | refine dr_cons (g_und rfl rfl rfl) ?_ | refine dr_cons (g_on rfl rfl rfl (op_call fb20 (.cons rfl (Conv.of rfl) (.nil _)) (treeFinal_ct _ ha.1 (by omega)) (argOk rfl rfl argOk0) rfl rfl)) ?_
          all_goals first | refine dr_cons (g_off rfl rfl rfl rfl rfl) ?_ | refine dr_cons (g_und rfl rfl rfl) ?_ | refine dr_cons (g_on rfl rfl rfl (op_fab f29_1 rfl rfl)) ?_ | refine dr_cons (g_on rfl rfl rfl (op_far f29_1 rfl rfl)) ?_ | refine dr_cons (g_on rfl rfl rfl (op_fae f29_1 rfl rfl)) ?_
          all_goals first | refine dr_cons (g_off rfl rfl rfl rfl rfl) ?_ | refine dr_cons (g_und rfl rfl rfl) ?_ | refine dr_cons (g_on rfl rfl rfl (op_ld ty26 rfl rfl rfl)) ?_ | refine dr_cons (g_on rfl rfl rfl (op_ldr ty26 rfl rfl)) ?_ | refine dr_cons (g_on rfl rfl rfl (op_lde ty26 rfl rfl (by assumption) rfl)) ?_ | refine dr_cons (g_on rfl rfl rfl (op_ldl ty26 rfl rfl rfl)) ?_ | refine dr_cons (g_on rfl rfl rfl (op_ldd ty26 rfl rfl rfl)) ?_ | refine dr_cons (g_on rfl rfl rfl (op_ldde ty26 rfl rfl (by assumption) rfl)) ?_
          all_goals first | refine dr_cons (g_off rfl rfl rfl rfl rfl) ?_ | refine dr_cons (g_und rfl rfl rfl) ?_ | refine dr_cons (g_on rfl rfl rfl (op_mv rfl (Conv.of rfl) rfl)) ?_ | refine dr_cons (g_on rfl rfl rfl (op_mvl rfl rfl rfl rfl)) ?_ | refine dr_cons (g_on rfl rfl rfl (op_mvo rfl rfl rfl rfl)) ?_
          all_goals first | refine dr_cons (g_off rfl rfl rfl rfl rfl) ?_ | refine dr_cons (g_und rfl rfl rfl) ?_ | refine dr_cons (g_on rfl rfl rfl (op_ix sl26 rfl rfl rfl (by omega) hy)) ?_ | refine dr_cons (g_on rfl rfl rfl (op_ixA sl26 rfl rfl rfl rfl (by omega))) ?_
          all_goals first | refine dr_cons (g_off rfl rfl rfl rfl rfl) ?_ | refine dr_cons (g_und rfl rfl rfl) ?_ | refine dr_cons (g_on rfl rfl rfl (op_fab f39_3 rfl rfl)) ?_ | refine dr_cons (g_on rfl rfl rfl (op_far f39_3 rfl rfl)) ?_ | refine dr_cons (g_on rfl rfl rfl (op_fae f39_3 rfl rfl)) ?_
          all_goals first | refine dr_cons (g_off rfl rfl rfl rfl rfl) ?_ | refine dr_cons (g_und rfl rfl rfl) ?_ | refine dr_cons (g_on rfl rfl rfl (op_ld ty27 rfl rfl rfl)) ?_ | refine dr_cons (g_on rfl rfl rfl (op_ldr ty27 rfl rfl)) ?_ | refine dr_cons (g_on rfl rfl rfl (op_lde ty27 rfl rfl (by assumption) rfl)) ?_ | refine dr_cons (g_on rfl rfl rfl (op_ldl ty27 rfl rfl rfl)) ?_ | refine dr_cons (g_on rfl rfl rfl (op_ldd ty27 rfl rfl rfl)) ?_ | refine dr_cons (g_on rfl rfl rfl (op_ldde ty27 rfl rfl (by assumption) rfl)) ?_
          all_goals first | refine dr_cons (g_off rfl rfl rfl rfl rfl) ?_ | refine dr_cons (g_und rfl rfl rfl) ?_ | refine dr_cons (g_on rfl rfl rfl (op_call fb20 (.cons rfl (Conv.of rfl) (.nil _)) (treeFinal_ct _ hb.1 (by omega)) (argOk rfl rfl argOk0) rfl rfl)) ?_
          all_goals first | refine dr_cons (g_off rfl rfl rfl rfl rfl) ?_ | refine dr_cons (g_und rfl rfl rfl) ?_ | refine dr_cons (g_on rfl rfl rfl (op_call fb32 (.cons rfl (Conv.cl) (.cons rfl (Conv.cl) (.nil _))) (lwFits_ct _ _) (argOk rfl rfl (argOk rfl rfl argOk0)) rfl rfl)) ?_
          all_goals first | refine dr_cons (g_off rfl rfl rfl rfl rfl) ?_ | refine dr_cons (g_und rfl rfl rfl) ?_ | refine dr_cons (g_on rfl rfl rfl (op_not rfl rfl)) ?_
          all_goals refine dr_cons (op_pick rfl rfl rfl rfl) ?_
          all_goals refine dr_nil mixed rfl ?_
          all_goals exact Le.mk rfl (tlb rfl rfl rfl (tle rfl (rfl) rfl (tle rfl (rfl) rfl (tle rfl (by first | rfl | (show AV.v _ = AV.v _; simp_all)) rfl tln)))) (olk rfl (by first | exact obOk_cell | exact obOk_arr | exact obOkW rfl | exact obOkW0 | exact obOkN | exact obOkS rfl | exact obOkNs | exact obOkS0 | trivial) oln) noS
        first | refine awp_seq (awp_cond rfl (fun h3 => absurd h3 (by decide)) (fun h3 => ?_)) | refine awp_seq (awp_seq (awp_cond rfl (fun h3 => absurd h3 (by decide)) (fun h3 => ?_))) | refine awp_cond rfl (fun h3 => absurd h3 (by decide)) (fun h3 => ?_) | refine awp_seq (awp_seq (awp_seq (awp_cond rfl (fun h3 => absurd h3 (by decide)) (fun h3 => ?_))))
        refine awp_skip ?_
        all_goals first | refine awp_seq (awp_region (id := 6) ?_) | refine awp_seq (awp_seq (awp_region (id := 6) ?_)) | refine awp_region (id := 6) ?_ | refine awp_seq (awp_seq (awp_seq (awp_region (id := 6) ?_)))
        all_goals first | refine awpOps_cons (op_mv rfl (Conv.of rfl) rfl) ?_ | refine awpOps_cons (op_mvl rfl rfl rfl rfl) ?_ | refine awpOps_cons (op_mvo rfl rfl rfl rfl) ?_
        all_goals refine awpOps_cons (op_add rfl rfl rfl (by omega)) ?_
        all_goals first | refine awpOps_cons (op_as rfl (Conv.of rfl) rfl) ?_ | refine awpOps_cons (op_asl rfl rfl rfl rfl) ?_ | refine awpOps_cons (op_aso rfl rfl rfl rfl) ?_
        all_goals refine awpOps_nil ?_
        repeat first | refine nx_seq ?_ | refine nx_block ?_
        exact ⟨n_ - 1, _, by omega, ⟨k + 1, by omega, rfl⟩, Le.mk rfl (tlb rfl rfl rfl (tle rfl (rfl) rfl (tle rfl (rfl) rfl tln))) (olk rfl (by first | exact obOk_cell | exact obOk_arr | exact obOkW rfl | exact obOkW0 | exact obOkN | exact obOkS rfl | exact obOkNs | exact obOkS0 | trivial) oln) noS⟩
      · refine awp_exit ?_
        repeat refine ex_seq ?_
        refine ex_block ?_
        all_goals exact Le.mk rfl (tlb rfl rfl rfl (tle rfl (rfl) rfl tln)) (olk rfl (by first | exact obOk_cell | exact obOk_arr | exact obOkW rfl | exact obOkW0 | exact obOkN | exact obOkS rfl | exact obOkNs | exact obOkS0 | trivial) oln) noS
    · all_goals first | refine awp_seq (awp_region (id := 3) ?_) | refine awp_seq (awp_seq (awp_region (id := 3) ?_)) | refine awp_region (id := 3) ?_ | refine awp_seq (awp_seq (awp_seq (awp_region (id := 3) ?_)))
      all_goals first | refine awpOps_cons (op_mv rfl (Conv.of rfl) rfl) ?_ | refine awpOps_cons (op_mvl rfl rfl rfl rfl) ?_ | refine awpOps_cons (op_mvo rfl rfl rfl rfl) ?_
      all_goals refine awpOps_cons (op_add rfl rfl rfl (by omega)) ?_
      all_goals first | refine awpOps_cons (op_as rfl (Conv.of rfl) rfl) ?_ | refine awpOps_cons (op_asl rfl rfl rfl rfl) ?_ | refine awpOps_cons (op_aso rfl rfl rfl rfl) ?_
      all_goals refine awpOps_nil ?_
      repeat first | refine nx_seq ?_ | refine nx_block ?_
      exact ⟨n_ - 1, _, by omega, ⟨i + 1, by omega, rfl⟩, Le.mk rfl (tlb rfl rfl rfl (tle rfl (rfl) rfl tln)) (olk rfl (by first | exact obOk_cell | exact obOk_arr | exact obOkW rfl | exact obOkW0 | exact obOkN | exact obOkS rfl | exact obOkNs | exact obOkS0 | trivial) oln) noS⟩
  · refine awp_exit ?_
    repeat refine ex_seq ?_
    refine ex_block ?_
    all_goals first | refine awp_seq (awp_region (id := 9) ?_) | refine awp_seq (awp_seq (awp_region (id := 9) ?_)) | refine awp_region (id := 9) ?_ | refine awp_seq (awp_seq (awp_seq (awp_region (id := 9) ?_)))
    all_goals refine awpOps_cons (op_as rfl (Conv.of rfl) rfl) ?_
    all_goals refine awpOps_nil ?_
    refine awp_ret ?_
    repeat first | refine rt_seq ?_ | refine rt_block ?_
    exact finP (.v rfl (Conv.of rfl)) rfl rfl
end Go.Proofs.YtompnmkpgffhkaaGreat

/- Plays with fewer events; what grows. -/
set_option linter.unusedVariables false
set_option linter.unusedSimpArgs false
namespace Go.Wt
theorem tip_nil {l : List Vote} {id : Int} (h : ∀ v ∈ l, v.by_ = id) : tipOf l = [] := by
  by_cases h0 : 0 < (tipOf l).length
  · obtain ⟨n, hn, hm⟩ := quorum1 id (sure_self (tip_sure l) h0)
    exact absurd (h _ hm) hn
  · exact List.eq_nil_of_length_eq_zero (by omega)
theorem final_nil {l : List Vote} {id : Int} (h : ∀ v ∈ l, v.by_ = id) : finalOf l = [] := by
  have : shownOf l = [] := by
    by_cases h0 : 0 < (shownOf l).length
    · obtain ⟨n, hn, hm⟩ := quorum1 id (sure_self (shown_sure l) h0)
      exact absurd (h _ hm) hn
    · exact List.eq_nil_of_length_eq_zero (by omega)
  unfold finalOf; rw [this]; rfl
/-! Forged votes and ticks alone -/
structure Al (w : Wrld) : Prop where
  seen : ∀ n ∈ w.nodes, n.seen = []
  log : ∀ v ∈ w.log, v.by_ = w.bad
theorem Al.do {w : Wrld} {e : Evt} (h : Al w) (he : e.kind = 4 ∨ e.kind = 1) : Al (doF w e) := by
  unfold doF
  rcases he with he | he
  · rw [if_neg (by omega), if_neg (by omega), if_neg (by omega), if_pos he]
    split
    · rename_i hh
      simp only [Bool.and_eq_true, decide_eq_true_eq] at hh
      unfold sendF
      split
      · refine ⟨h.seen, fun v hv => ?_⟩
        rcases List.mem_append.1 hv with hv | hv
        · exact h.log v hv
        · simp at hv; subst hv; exact hh.2
      · exact h
    · exact h
  · rw [if_pos he]
    refine ⟨fun n hn => ?_, h.log⟩
    obtain ⟨m, hm, rfl⟩ := List.mem_map.1 hn
    have := h.seen m hm
    unfold enterF; split <;> exact this
theorem Al.fold : ∀ (l : List Evt) {w : Wrld}, Al w → (∀ e ∈ l, e.kind = 4 ∨ e.kind = 1) → Al (l.foldl doF w)
  | [], _, h, _ => h
  | e :: r, _, h, hl => Al.fold r (h.do (hl e (by simp))) fun e' he => hl e' (by simp [he])
theorem Al.play {bad : Int} {evs : List Evt} (h : ∀ e ∈ evs, e.kind = 4 ∨ e.kind = 1) : Al (playF bad evs) :=
  Al.fold evs ⟨fun n hn => by simp [newW, newN] at hn; rcases hn with rfl | rfl | rfl | rfl <;> rfl, fun v hv => by simp [newW] at hv⟩ h
/-! Nothing is brought -/
def Uh (w : Wrld) : Prop := ∀ n ∈ w.nodes, ∀ v ∈ n.seen, v.by_ = n.id ∧ v.chain.length = 1
theorem send_nodes' (w : Wrld) (v : Vote) : (sendF w v).nodes = w.nodes := by unfold sendF; split <;> rfl
theorem put_nodes' (w : Wrld) (k : Nat) (x : Nod × Vote × Bool) : (putF w k x).nodes = w.nodes.set k x.1 := by
  unfold putF
  split
  · rw [send_nodes']
  · rfl
theorem Uh.do {w : Wrld} {e : Evt} (h : Uh w) (he : e.kind ≠ 3) : Uh (doF w e) := by
  unfold doF
  split
  · intro n hn
    obtain ⟨m, hm, rfl⟩ := List.mem_map.1 hn
    have := h m hm
    unfold enterF; split <;> exact this
  · split
    · unfold wproposeF
      split
      · split
        · rename_i n hn
          intro m hm
          rw [put_nodes'] at hm
          rcases List.mem_or_eq_of_mem_set hm with hm | hm
          · exact h m hm
          · subst hm
            have hN := h n (List.mem_of_getElem? hn)
            rcases propose_cases n e.pay with e1 | ⟨c, hc, e1⟩
            · rw [e1]; exact hN
            · rw [e1]
              have hl := hc.len
              rw [tip_nil fun v hv => (hN v hv).1] at hl
              unfold voteF
              split
              · exact hN
              · intro v hv
                rcases List.mem_append.1 hv with hv | hv
                · exact hN v hv
                · simp at hv; subst hv; exact ⟨rfl, by simpa using hl⟩
        · exact h
      · exact h
    · split
      · split
        · intro n hn; rw [send_nodes'] at hn; exact h n hn
        · exact h
      · exact h
theorem Uh.fold : ∀ (l : List Evt) {w : Wrld}, Uh w → (∀ e ∈ l, e.kind ≠ 3) → Uh (l.foldl doF w)
  | [], _, h, _ => h
  | e :: r, _, h, hl => Uh.fold r (h.do (hl e (by simp))) fun e' he => hl e' (by simp [he])
theorem Uh.play {bad : Int} {evs : List Evt} (h : ∀ e ∈ evs, e.kind ≠ 3) : Uh (playF bad evs) :=
  Uh.fold evs (fun n hn v hv => by simp [newW, newN] at hn; rcases hn with rfl | rfl | rfl | rfl <;> simp at hv) h
/-! Nothing is forged -/
theorem log_put {w : Wrld} {k : Nat} {x : Nod × Vote × Bool} {v : Vote} (h : v ∈ (putF w k x).log) : v ∈ w.log ∨ (x.2.2 = true ∧ v = x.2.1) := by
  unfold putF at h
  split at h
  · rename_i hx
    unfold sendF at h
    split at h
    · rcases List.mem_append.1 h with h | h
      · exact .inl h
      · simp at h; exact .inr ⟨hx, h⟩
    · exact .inl h
  · exact .inl h
theorem voteF_by {n : Nod} {c : List Itm} (h : (voteF n c).2.2 = true) : (voteF n c).2.1.by_ = n.id := by
  unfold voteF at h ⊢
  split at h
  · cases h
  · rename_i hh; rw [if_neg hh]
theorem propose_by {n : Nod} {p : Pay} (h : (proposeF n p).2.2 = true) : (proposeF n p).2.1.by_ = n.id := by
  rcases propose_cases n p with e | ⟨c, _, e⟩
  · rw [e] at h; cases h
  · rw [e] at h ⊢; exact voteF_by h
theorem tryF_by {n : Nod} : ∀ {l : List Vote}, (tryF n l).2.2 = true → (tryF n l).2.1.by_ = n.id
  | [], h => by cases h
  | u :: r, h => by
    simp only [tryF] at h ⊢
    split at h
    · rename_i hf; rw [if_pos hf]; exact voteF_by h
    · rename_i hf; rw [if_neg hf]; exact tryF_by h
theorem hear_by {n : Nod} {v : Vote} (h : (hearF n v).2.2 = true) : (hearF n v).2.1.by_ = n.id := by
  unfold hearF at h ⊢
  split at h
  · rename_i hh
    rw [if_pos hh]
    split at h
    · rename_i hm
      rw [if_pos hm, ← (seeF_epoch n v).2.1]
      exact tryF_by h
    · cases h
  · cases h
def Si (w : Wrld) : Prop := ∀ v ∈ w.log, v.by_ ≠ w.bad
theorem Si.do {w : Wrld} {e : Evt} (hI : Inv w) (h : Si w) (he : e.kind ≠ 4) : Si (doF w e) := by
  intro v hv
  rw [doF_bad]
  unfold doF at hv
  split at hv
  · exact h v hv
  · split at hv
    · unfold wproposeF at hv
      split at hv
      · rename_i hh
        simp only [honestB, Bool.and_eq_true, Bool.not_eq_true', decide_eq_false_iff_not, decide_eq_true_eq] at hh
        have hid : 1 ≤ e.a ∧ e.a ≤ 4 := by simpa [within] using hh.1.1.1
        split at hv
        · rename_i n hn
          rcases log_put hv with hv | ⟨h1, rfl⟩
          · exact h v hv
          · rw [propose_by h1, node_id hI hid hn]; exact hh.1.1.2
        · exact h v hv
      · exact h v hv
    · split at hv
      · unfold wbringF at hv
        split at hv
        · rename_i hh
          simp only [honestB, Bool.and_eq_true, Bool.not_eq_true', decide_eq_false_iff_not, decide_eq_true_eq] at hh
          have hid : 1 ≤ e.b ∧ e.b ≤ 4 := by simpa [within] using hh.1.1.1
          split at hv
          · rename_i n u hn hu
            rcases log_put hv with hv | ⟨h1, rfl⟩
            · exact h v hv
            · rw [hear_by h1, node_id hI hid hn]; exact hh.1.1.2
          · exact h v hv
        · exact h v hv
      · exact h v hv
theorem Si.fold : ∀ (l : List Evt) {w : Wrld}, Inv w → Si w → (∀ e ∈ l, e.kind ≠ 4) → Si (l.foldl doF w)
  | [], _, _, h, _ => h
  | e :: r, _, hI, h, hl => Si.fold r (hI.do e) (h.do hI (hl e (by simp))) fun e' he => hl e' (by simp [he])
theorem Si.play {bad : Int} (hb : within bad 0 4 = true) {evs : List Evt} (h : ∀ e ∈ evs, e.kind ≠ 4) : Si (playF bad evs) :=
  Si.fold evs (Inv.new hb) (fun v hv => by simp [newW] at hv) h
theorem doF_epoch (w : Wrld) (e : Evt) : (doF w e).epoch = if e.kind = 1 then min (w.epoch + 1) 30 else w.epoch := by
  have hs : ∀ (w : Wrld) v, (sendF w v).epoch = w.epoch := fun w v => by unfold sendF; split <;> rfl
  have hp : ∀ (w : Wrld) k x, (putF w k x).epoch = w.epoch := fun w k x => by
    unfold putF
    split
    · rw [hs]
    · rfl
  unfold doF
  split
  · rfl
  · split
    · unfold wproposeF
      split
      · split
        · exact hp _ _ _
        · rfl
      · rfl
    · split
      · unfold wbringF
        split
        · split
          · exact hp _ _ _
          · rfl
        · rfl
      · split
        · split
          · exact hs _ _
          · rfl
        · rfl
theorem epoch_filter (p : Evt → Bool) (hp : ∀ e, e.kind = 1 → p e = true) : ∀ (l : List Evt) (w w' : Wrld), w.epoch = w'.epoch → ((l.filter p).foldl doF w).epoch = (l.foldl doF w').epoch
  | [], _, _, h => h
  | e :: r, w, w', h => by
    simp only [List.filter_cons, List.foldl_cons]
    by_cases hk : p e = true
    · rw [if_pos hk]
      exact epoch_filter p hp r _ _ (by rw [doF_epoch, doF_epoch, h])
    · rw [if_neg hk]
      refine epoch_filter p hp r _ _ ?_
      rw [doF_epoch, if_neg (fun h1 => hk (hp e h1))]; exact h
/-! What was seen stays seen -/
structure Grw (w w' : Wrld) : Prop where
  log : ∀ v ∈ w.log, v ∈ w'.log
  seen : ∀ (i : Nat) (n : Nod), w.nodes[i]? = some n → ∃ n', w'.nodes[i]? = some n' ∧ ∀ v ∈ n.seen, v ∈ n'.seen
theorem Grw.refl (w : Wrld) : Grw w w := ⟨fun _ h => h, fun i n h => ⟨n, h, fun _ h => h⟩⟩
theorem Grw.trans {a b c : Wrld} (h : Grw a b) (k : Grw b c) : Grw a c := ⟨fun v hv => k.log v (h.log v hv), fun i n hn => by
  obtain ⟨m, h1, h2⟩ := h.seen i n hn
  obtain ⟨o, h3, h4⟩ := k.seen i m h1
  exact ⟨o, h3, fun v hv => h4 v (h2 v hv)⟩⟩
theorem Grw.send (w : Wrld) (v : Vote) : Grw w (sendF w v) := ⟨fun u hu => by
  unfold sendF; split
  · exact List.mem_append_left _ hu
  · exact hu, fun i n hn => ⟨n, by rw [send_nodes']; exact hn, fun _ h => h⟩⟩
theorem Grw.set {w : Wrld} {k : Nat} {n m : Nod} (hn : w.nodes[k]? = some n) (hm : ∀ v ∈ n.seen, v ∈ m.seen) : Grw w { w with nodes := w.nodes.set k m } := ⟨fun _ h => h, fun i a ha => by
  by_cases e : i = k
  · subst e
    rw [hn] at ha
    injection ha with ha
    subst ha
    exact ⟨m, List.getElem?_set_self (List.getElem?_eq_some_iff.1 hn).1, hm⟩
  · exact ⟨a, by show (w.nodes.set k m)[i]? = _; rw [List.getElem?_set_ne (Ne.symm e)]; exact ha, fun _ h => h⟩⟩
theorem Grw.put {w : Wrld} {k : Nat} {n : Nod} {x : Nod × Vote × Bool} (hn : w.nodes[k]? = some n) (hm : ∀ v ∈ n.seen, v ∈ x.1.seen) : Grw w (putF w k x) := by
  unfold putF
  split
  · exact (Grw.set hn hm).trans (Grw.send _ _)
  · exact Grw.set hn hm
theorem voteF_seen (n : Nod) (c : List Itm) : ∀ v ∈ n.seen, v ∈ (voteF n c).1.seen := fun v hv => by
  unfold voteF; split
  · exact hv
  · exact List.mem_append_left _ hv
theorem proposeF_seen (n : Nod) (p : Pay) : ∀ v ∈ n.seen, v ∈ (proposeF n p).1.seen := by
  rcases propose_cases n p with e | ⟨c, _, e⟩
  · rw [e]; exact fun _ h => h
  · rw [e]; exact voteF_seen n c
theorem tryF_seen (n : Nod) : ∀ l : List Vote, ∀ v ∈ n.seen, v ∈ (tryF n l).1.seen
  | [] => fun _ h => h
  | u :: r => by
    simp only [tryF]
    split
    · exact voteF_seen n _
    · exact tryF_seen n r
theorem seeF_seen (n : Nod) (u : Vote) : ∀ v ∈ n.seen, v ∈ (seeF n u).seen := fun v hv => by
  unfold seeF; split
  · exact hv
  · exact List.mem_append_left _ hv
theorem hearF_seen (n : Nod) (u : Vote) : ∀ v ∈ n.seen, v ∈ (hearF n u).1.seen := fun v hv => by
  unfold hearF
  split
  · split
    · exact tryF_seen _ _ v (seeF_seen n u v hv)
    · exact seeF_seen n u v hv
  · exact hv
theorem Grw.do (w : Wrld) (e : Evt) : Grw w (doF w e) := by
  unfold doF
  split
  · refine ⟨fun _ h => h, fun i n hn => ⟨enterF n (min (w.epoch + 1) 30), ?_, ?_⟩⟩
    · show (w.nodes.map _)[i]? = _
      rw [List.getElem?_map, hn]; rfl
    · unfold enterF; split <;> exact fun _ h => h
  · split
    · unfold wproposeF
      split
      · split
        · rename_i n hn; exact Grw.put hn (proposeF_seen n _)
        · exact Grw.refl w
      · exact Grw.refl w
    · split
      · unfold wbringF
        split
        · split
          · rename_i n v hn hv; exact Grw.put hn (hearF_seen n v)
          · exact Grw.refl w
        · exact Grw.refl w
      · split
        · split
          · exact Grw.send _ _
          · exact Grw.refl w
        · exact Grw.refl w
theorem Grw.fold : ∀ (l : List Evt) (w : Wrld), Grw w (l.foldl doF w)
  | [], w => Grw.refl w
  | e :: r, w => (Grw.do w e).trans (Grw.fold r _)
theorem Grw.play (bad : Int) (evs : List Evt) (n : Nat) : Grw (playF bad (evs.take n)) (playF bad evs) := by
  have : playF bad evs = (evs.drop n).foldl doF (playF bad (evs.take n)) := by
    unfold playF; rw [← List.foldl_append, List.take_append_drop]
  rw [this]; exact Grw.fold _ _
theorem allStep_pos (l : List Vote) : ∀ (r : List Vote) (o : List (List Itm)) (x : List Itm), o[0]? = some x → (r.foldl (allStep l) o)[0]? = some x
  | [], _, _, h => h
  | v :: r, o, x, h => by
    refine allStep_pos l r _ x ?_
    unfold allStep
    split
    · have := (List.getElem?_eq_some_iff.1 h).1
      rw [List.getElem?_append_left this]; exact h
    · exact h
theorem allFold_nodup (l : List Vote) : ∀ (r : List Vote) (o : List (List Itm)), o.Nodup → (r.foldl (allStep l) o).Nodup
  | [], _, h => h
  | v :: r, o, h => by
    refine allFold_nodup l r _ ?_
    unfold allStep
    split
    · rename_i hh
      simp only [Bool.and_eq_true, Bool.not_eq_true', decide_eq_false_iff_not] at hh
      rw [List.nodup_append]
      refine ⟨h, by simp, fun a ha b hb => ?_⟩
      simp at hb
      rintro rfl
      exact hh.1 (hb ▸ ha)
    · exact h
theorem allOf_nodup (l : List Vote) : (allOf l).Nodup := allFold_nodup l l [[]] (by simp)
end Go.Wt

/- Worlds in form. -/
set_option linter.unusedVariables false
set_option linter.unusedSimpArgs false
namespace Go.Wt
def shownB (w : Wrld) (v : Vote) : Bool := decide (v.by_ = w.bad) || decide (v ∈ w.log)
def nodeIn (w : Wrld) (i : Nat) (n : Nod) : Bool := nodeOk n && decide (n.id = (i : Int) + 1) && decide (n.epoch = w.epoch) && !(n.seen.any fun v => !shownB w v)
def nodesOkFrom (w : Wrld) : List Nod → Nat → Bool
  | [], _ => true
  | n :: r, i => nodeIn w i n && nodesOkFrom w r (i + 1)
def worldOk0 (w : Wrld) : Bool := within w.epoch 0 30 && within w.bad 0 4 && decide (w.nodes.length = 4) && decide (w.log.length ≤ 80) && votesOk w.log
def worldOk (w : Wrld) : Bool := worldOk0 w && nodesOkFrom w w.nodes 0
theorem nodesOk_drop {w : Wrld} {l : List Nod} {k : Nat} {x : Nod} (h : l[k]? = some x) : nodesOkFrom w (l.drop k) k = (nodeIn w k x && nodesOkFrom w (l.drop (k + 1)) (k + 1)) := by
  rw [drop_at h]; rfl
theorem nodesOk_iff (w : Wrld) : ∀ (l : List Nod) (j : Nat), nodesOkFrom w l j = true ↔ ∀ (i : Nat) (n : Nod), l[i]? = some n → nodeIn w (j + i) n = true
  | [], j => by simp [nodesOkFrom]
  | x :: r, j => by
    simp only [nodesOkFrom, Bool.and_eq_true, nodesOk_iff w r (j + 1)]
    constructor
    · rintro ⟨h1, h2⟩ i n hi
      cases i with
      | zero => simp at hi; subst hi; exact h1
      | succ i =>
        have := h2 i n (by simpa using hi)
        rwa [show j + 1 + i = j + (i + 1) by omega] at this
    · intro h
      refine ⟨h 0 x rfl, fun i n hi => ?_⟩
      have := h (i + 1) n (by simpa using hi)
      rwa [show j + 1 + i = j + (i + 1) by omega]
structure WOk (w : Wrld) : Prop where
  fx : FineX w
  bad : within w.bad 0 4 = true
  node : ∀ (i : Nat) (n : Nod), w.nodes[i]? = some n → n.id = (i : Int) + 1 ∧ n.epoch = w.epoch ∧ ∀ v ∈ n.seen, v.by_ = w.bad ∨ v ∈ w.log
theorem worldOk_iff {w : Wrld} : worldOk w = true ↔ WOk w := by
  unfold worldOk worldOk0
  simp only [Bool.and_eq_true, nodesOk_iff, Nat.zero_add, decide_eq_true_eq]
  have hin : ∀ i n, nodeIn w i n = true ↔ nodeOk n = true ∧ n.id = (i : Int) + 1 ∧ n.epoch = w.epoch ∧ ∀ v ∈ n.seen, v.by_ = w.bad ∨ v ∈ w.log := fun i n => by
    unfold nodeIn shownB
    simp only [Bool.and_eq_true, decide_eq_true_eq, Bool.not_eq_true', List.any_eq_false, Bool.or_eq_false_iff, decide_eq_false_iff_not, and_assoc, Bool.not_eq_false', Bool.or_eq_true, Bool.not_eq_true]
    constructor
    · rintro ⟨a, b, c, d⟩
      exact ⟨a, b, c, fun v hv => by have := d v hv; by_cases hb : v.by_ = w.bad <;> simp_all⟩
    · rintro ⟨a, b, c, d⟩
      exact ⟨a, b, c, fun v hv => by have := d v hv; by_cases hb : v.by_ = w.bad <;> simp_all⟩
  constructor
  · rintro ⟨⟨⟨⟨⟨h1, h2⟩, h3⟩, h4⟩, h5⟩, h6⟩
    refine ⟨⟨by simpa [within] using h1, h3, h4, h5, fun n hn => ?_⟩, h2, fun i n hn => ((hin i n).1 (h6 i n hn)).2⟩
    obtain ⟨i, hi⟩ := List.mem_iff_getElem?.1 hn
    exact ((hin i n).1 (h6 i n hi)).1
  · rintro ⟨h1, h2, h3⟩
    refine ⟨⟨⟨⟨⟨by have := h1.ep; simpa [within] using this, h2⟩, h1.four⟩, h1.ll⟩, h1.log⟩, fun i n hn => (hin i n).2 ⟨h1.nodes n (List.mem_of_getElem? hn), h3 i n hn⟩⟩
theorem Inv.wok {w : Wrld} (h : Inv w) : WOk w := ⟨h.ok, h.bad, fun i n hn => by
  have hN := h.nodes i n hn
  refine ⟨hN.id, hN.ep, fun v hv => ?_⟩
  by_cases hb : n.id = w.bad
  · rw [hN.idle hb] at hv; cases hv
  · exact .inr (hN.sub hb v hv)⟩
theorem Inv.worldOk {w : Wrld} (h : Inv w) : worldOk w = true := worldOk_iff.2 h.wok
end Go.Wt

/- Worlds in form; what happens in a world, for outsiders. -/
set_option linter.unusedVariables false
set_option linter.unusedSimpArgs false
namespace Go.Proofs.YtompnmkpgffhkaaGreat
open Go Go.Wt
theorem shown_w_ct (v : Vote) (hO : Nat → Wt.Obj) (w : Wrld) (ho : hO 0 = .cell w) (hf : hO 9 = .free) (hH : ∀ o, obOk (pH hO) (hO o)) :
    Ct Tryz.prog 59 [.box 0 (IsLens.whole Wrld), .v v] hO (fun r1 h1 => r1 = .v (shownB w v) ∧ h1 = hO) := by
  refine Ct.intro Tryz.func59 rfl rfl ?_
  all_goals refine awp_seq (awp_region (id := 0) ?_)
  all_goals refine awpOps_cons (op_box (o := 9) ty48 rfl (Conv.of rfl) hf rfl) ?_
  all_goals refine awpOps_cons (op_as rfl (Conv.of rfl) rfl) ?_
  all_goals refine awpOps_nil ?_
  all_goals refine awp_seq (dr_start (id := 1) ?_)
  all_goals refine dr_cons (op_fab f48_0 rfl rfl) ?_
  all_goals refine dr_cons (op_ld ty3 rfl rfl rfl) ?_
  all_goals refine dr_cons (op_mv rfl (Conv.of rfl) rfl) ?_
  all_goals refine dr_cons (op_nilc_box rfl rfl) ?_
  all_goals refine dr_cons (op_fab f29_3 rfl rfl) ?_
  all_goals refine dr_cons (op_ld ty3 rfl ho rfl) ?_
  all_goals refine dr_cons (op_eql rfl rfl rfl) ?_
  all_goals refine dr_cons (op_mv rfl (Conv.of rfl) rfl) ?_
  all_goals refine dr_split (t := 12) rfl (fun h => ?_) (fun h => ?_)
  all_goals first | refine dr_cons (g_off rfl rfl rfl rfl rfl) ?_ | refine dr_cons (g_on rfl rfl rfl (op_mv rfl (Conv.of rfl) rfl)) ?_
  all_goals first | refine dr_cons (g_off rfl rfl rfl rfl rfl) ?_ | refine dr_cons (g_on rfl rfl rfl (op_nilc_box rfl rfl)) ?_
  all_goals first | refine dr_cons (g_off rfl rfl rfl rfl rfl) ?_ | refine dr_cons (g_on rfl rfl rfl (op_fab f29_2 rfl rfl)) ?_
  all_goals first | refine dr_cons (g_off rfl rfl rfl rfl rfl) ?_ | refine dr_cons (g_on rfl rfl rfl (op_ld ty27 rfl ho rfl)) ?_
  all_goals first | refine dr_cons (g_off rfl rfl rfl rfl rfl) ?_ | refine dr_cons (g_on rfl rfl rfl (op_ld ty48 rfl rfl rfl)) ?_
  all_goals first | refine dr_cons (g_off rfl rfl rfl rfl rfl) ?_ | refine dr_cons (g_on rfl rfl rfl (op_call fb109 (.cons rfl (Conv.of rfl) (.cons rfl (Conv.of rfl) (.nil _))) (has_ct _ _) (argOk rfl rfl (argOk rfl rfl argOk0)) rfl rfl)) ?_
  all_goals refine dr_cons (op_pick rfl rfl rfl rfl) ?_
  all_goals refine dr_cons (op_as rfl (Conv.of rfl) rfl) ?_
  all_goals refine dr_nil mixed rfl ?_
  all_goals refine awp_ret ?_
  all_goals refine finF (.v rfl (Conv.of rfl)) rfl ?_ (by intro o ho; by_cases e : o = 9 <;> first | (exfalso; subst e; rw [hf] at ho; exact absurd ho (by decide)) | simp only [st0, St.upd, lk, orr, if_neg e]) hH
  all_goals (simp_all [FV.av, shownB])
theorem okFn_ct (v : Vote) (hO : Nat → Wt.Obj) (w : Wrld) (ho : hO 0 = .cell w) (hf : hO 8 = .free) (hf9 : hO 9 = .free) (hH : ∀ o, obOk (pH hO) (hO o)) :
    Ct Tryz.prog 58 [.v v, .box 0 (IsLens.whole Wrld)] hO (fun r1 h1 => r1 = .v (!shownB w v) ∧ h1 = hO) := by
  refine Ct.intro Tryz.func58 rfl rfl ?_
  all_goals refine awp_seq (awp_region (id := 0) ?_)
  all_goals refine awpOps_cons (op_box (o := 8) ty48 rfl (Conv.of rfl) hf rfl) ?_
  all_goals refine awpOps_cons (op_as rfl (Conv.of rfl) rfl) ?_
  all_goals refine awpOps_nil ?_
  have hH' : ∀ o, obOk (pH (fun o => orr (lk [(8, Wt.Obj.cell v)] o) (hO o))) (orr (lk [(8, Wt.Obj.cell v)] o) (hO o)) := fun o => by
    by_cases e : o = 8
    · subst e; exact plain_refs _
    · have := hH o
      simp only [lk, if_neg e, orr]
      cases hx : hO o with
      | free => trivial
      | dead => trivial
      | cell x =>
        rw [hx] at this
        intro o' h'
        have h2 := this o' h'
        unfold pH at h2 ⊢
        by_cases e' : o' = 8
        · subst e'; rfl
        · simpa [lk, e', orr] using h2
      | arr xs =>
        rw [hx] at this
        intro x hx' o' h'
        have h2 := this x hx' o' h'
        unfold pH at h2 ⊢
        by_cases e' : o' = 8
        · subst e'; rfl
        · simpa [lk, e', orr] using h2
  all_goals refine awp_seq (awp_region (id := 1) ?_)
  all_goals refine awpOps_cons (op_ld ty48 rfl rfl rfl) ?_
  all_goals refine awpOps_callH (h := fun o => orr (lk [(8, Wt.Obj.cell v)] o) (hO o)) rfl (fb59) (.cons rfl (Conv.of rfl) (.cons rfl (Conv.of rfl) (.nil _))) rfl (shown_w_ct v _ w (by simpa [lk, orr] using ho) (by simpa [lk, orr] using hf9) hH') (Hand.none (Hand.l1 ⟨rfl, fun o ho' => by simp [AV.refs] at ho'; subst ho'; simp [pH, lk, orr, ho, isFree]⟩ (Hand.l1 (Hand.of rfl rfl) Hand.l0))) hH' rfl rfl ?_
  all_goals refine awpOps_cons (op_not rfl rfl) ?_
  all_goals refine awpOps_cons (op_as rfl (Conv.of rfl) rfl) ?_
  all_goals refine awpOps_nil ?_
  all_goals refine awp_ret ?_
  all_goals refine finF (.v rfl (Conv.of rfl)) rfl rfl (by intro o ho'; by_cases e : o = 8 <;> first | (exfalso; subst e; rw [hf] at ho'; exact absurd ho' (by decide)) | simp only [st0, St.upd, lk, orr, if_neg e]) hH
set_option maxHeartbeats 2000000 in
theorem worldOk_ct (w : Wrld) : CtP Tryz.prog 19 [.v w] (.v (worldOk w)) := by
  refine Ct.intro Tryz.func19 rfl rfl ?_
  all_goals refine awp_seq (awp_region (id := 0) ?_)
  all_goals refine awpOps_cons (op_box (o := 0) ty29 rfl (Conv.of rfl) rfl rfl) ?_
  all_goals refine awpOps_cons (op_as rfl (Conv.of rfl) rfl) ?_
  all_goals refine awpOps_nil ?_
  refine awp_seq (awp_seq_to (s' := mkSt 63 [(1, .box 0 (IsLens.whole Wrld)), (32, .v (!worldOk0 w))] [(0, .cell w)]) ?_ ?_)
  · all_goals refine awp_region (id := 1) ?_
    all_goals refine awpOps_cons (op_fab f29_0 rfl rfl) ?_
    all_goals refine awpOps_cons (op_ld ty3 rfl rfl rfl) ?_
    all_goals refine awpOps_cons (op_call fb54 (.cons rfl (Conv.of rfl) (.cons rfl (Conv.of rfl) (.cons rfl (Conv.of rfl) (.nil _)))) (within_ct _ _ _) (argOk rfl rfl (argOk rfl rfl (argOk rfl rfl argOk0))) rfl rfl) ?_
    all_goals refine awpOps_cons (op_not rfl rfl) ?_
    all_goals refine awpOps_cons (op_mv rfl (Conv.of rfl) rfl) ?_
    all_goals refine g_split (t := 9) rfl (fun h => ?_) (fun h => ?_)
    all_goals first | refine awpOps_cons (g_off rfl rfl rfl rfl rfl) ?_ | refine awpOps_cons (g_on rfl rfl rfl (op_fab f29_3 rfl rfl)) ?_
    all_goals first | refine awpOps_cons (g_off rfl rfl rfl rfl rfl) ?_ | refine awpOps_cons (g_on rfl rfl rfl (op_ld ty3 rfl rfl rfl)) ?_
    all_goals first | refine awpOps_cons (g_off rfl rfl rfl rfl rfl) ?_ | refine awpOps_cons (g_on rfl rfl rfl (op_call fb54 (.cons rfl (Conv.of rfl) (.cons rfl (Conv.of rfl) (.cons rfl (Conv.of rfl) (.nil _)))) (within_ct _ _ _) (argOk rfl rfl (argOk rfl rfl (argOk rfl rfl argOk0))) rfl rfl)) ?_
    all_goals first | refine awpOps_cons (g_off rfl rfl rfl rfl rfl) ?_ | refine awpOps_cons (g_on rfl rfl rfl (op_not rfl rfl)) ?_
    all_goals refine awpOps_cons (op_pick rfl rfl rfl rfl) ?_
    all_goals refine awpOps_cons (op_mv rfl (Conv.of rfl) rfl) ?_
    all_goals first | refine g_lit (t := 15) (b := true) rfl ?_ | refine g_split (t := 15) rfl (fun h => ?_) (fun h => ?_)
    all_goals first | refine awpOps_cons (g_off rfl rfl rfl rfl rfl) ?_ | refine awpOps_cons (g_on rfl rfl rfl (op_fab f29_1 rfl rfl)) ?_
    all_goals first | refine awpOps_cons (g_off rfl rfl rfl rfl rfl) ?_ | refine awpOps_cons (g_on rfl rfl rfl (op_ld ty26 rfl rfl rfl)) ?_
    all_goals first | refine awpOps_cons (g_off rfl rfl rfl rfl rfl) ?_ | refine awpOps_cons (g_on rfl rfl rfl (op_len sl26 rfl rfl)) ?_
    all_goals first | refine awpOps_cons (g_off rfl rfl rfl rfl rfl) ?_ | refine awpOps_cons (g_on rfl rfl rfl (op_neq rfl rfl rfl)) ?_
    all_goals refine awpOps_cons (op_pick rfl rfl rfl rfl) ?_
    all_goals refine awpOps_cons (op_mv rfl (Conv.of rfl) rfl) ?_
    all_goals first | refine g_lit (t := 21) (b := true) rfl ?_ | refine g_split (t := 21) rfl (fun h => ?_) (fun h => ?_)
    all_goals first | refine awpOps_cons (g_off rfl rfl rfl rfl rfl) ?_ | refine awpOps_cons (g_on rfl rfl rfl (op_fab f29_2 rfl rfl)) ?_
    all_goals first | refine awpOps_cons (g_off rfl rfl rfl rfl rfl) ?_ | refine awpOps_cons (g_on rfl rfl rfl (op_ld ty27 rfl rfl rfl)) ?_
    all_goals first | refine awpOps_cons (g_off rfl rfl rfl rfl rfl) ?_ | refine awpOps_cons (g_on rfl rfl rfl (op_len sl27 rfl rfl)) ?_
    all_goals first | refine awpOps_cons (g_off rfl rfl rfl rfl rfl) ?_ | refine awpOps_cons (g_on rfl rfl rfl (op_gtr rfl rfl rfl)) ?_
    all_goals refine awpOps_cons (op_pick rfl rfl rfl rfl) ?_
    all_goals refine awpOps_cons (op_mv rfl (Conv.of rfl) rfl) ?_
    all_goals first | refine g_lit (t := 27) (b := true) rfl ?_ | refine g_split (t := 27) rfl (fun h => ?_) (fun h => ?_)
    all_goals first | refine awpOps_cons (g_off rfl rfl rfl rfl rfl) ?_ | refine awpOps_cons (g_on rfl rfl rfl (op_fab f29_2 rfl rfl)) ?_
    all_goals first | refine awpOps_cons (g_off rfl rfl rfl rfl rfl) ?_ | refine awpOps_cons (g_on rfl rfl rfl (op_ld ty27 rfl rfl rfl)) ?_
    all_goals first | refine awpOps_cons (g_off rfl rfl rfl rfl rfl) ?_ | refine awpOps_cons (g_on rfl rfl rfl (op_call fb55 (.cons rfl (Conv.of rfl) (.nil _)) (votesOk_ct _) (argOk rfl rfl argOk0) rfl rfl)) ?_
    all_goals first | refine awpOps_cons (g_off rfl rfl rfl rfl rfl) ?_ | refine awpOps_cons (g_on rfl rfl rfl (op_not rfl rfl)) ?_
    all_goals refine awpOps_cons (op_pick rfl rfl rfl rfl) ?_
    all_goals refine awpOps_nil ?_
    all_goals exact Le.mk rfl (tlb rfl rfl rfl (tle rfl (by (simp_all [worldOk0] <;> omega)) rfl tln)) (olk rfl (by exact obOk_cell) oln) noS
  refine awp_cond rfl (fun h => ?_) (fun h => ?_)
  · all_goals refine awp_seq (awp_region (id := 2) ?_)
    all_goals refine awpOps_cons (op_as rfl (Conv.of rfl) rfl) ?_
    all_goals refine awpOps_nil ?_
    refine awp_ret ?_
    repeat first | refine rt_seq ?_ | refine rt_block ?_
    refine finP (.v rfl (Conv.of rfl)) rfl ?_
    show AV.v false = _
    simp [worldOk, not_t h]
  · have h0 := not_f h
    have heq : worldOk w = nodesOkFrom w w.nodes 0 := by rw [worldOk, h0, Bool.true_and]
    refine awp_skip ?_
    all_goals refine awp_seq (awp_seq (awp_region (id := 3) ?_))
    all_goals refine awpOps_cons (op_fab f29_1 rfl rfl) ?_
    all_goals refine awpOps_cons (op_ld ty26 rfl rfl rfl) ?_
    refine awpOps_bigL 34 rfl (fun hB => ?_)
    all_goals refine awpOps_cons (op_len sl26 rfl rfl) ?_
    all_goals refine awpOps_cons (op_mv rfl (Conv.of rfl) rfl) ?_
    all_goals refine awpOps_nil ?_
    refine awp_block ?_
    refine awp_loop' (fun n_ s => ∃ (k : Nat), ∃ (hn : n_ + k = w.nodes.length), ∃ (hall : worldOk w = nodesOkFrom w (w.nodes.drop k) k), s = mkSt 63 [(1, .box 0 (IsLens.whole Wrld)), (34, .v w.nodes), (35, .v (w.nodes.length : Int)), (36, .v (k : Int))] [(0, .cell w)]) (w.nodes.length) ⟨0, by omega, heq, rfl⟩ (Le.mk rfl (tlb rfl rfl rfl (tle rfl (rfl) rfl (tle rfl (rfl) rfl (tle rfl (rfl) rfl tln)))) (olk rfl (by exact obOk_cell) oln) noS) ?_
    rintro n_ s ⟨k, hn, hall, rfl⟩
    all_goals refine awp_seq (awp_region (id := 4) ?_)
    all_goals refine awpOps_cons (op_lss rfl rfl rfl) ?_
    all_goals refine awpOps_nil ?_
    refine awp_seq (awp_cond rfl (fun h => ?_) (fun h => ?_))
    · have hlt : k < w.nodes.length := by simpa using h
      have hx : w.nodes[k]? = some w.nodes[k] := List.getElem?_eq_getElem hlt
      generalize w.nodes[k] = a at hx
      have hs := nodesOk_drop (w := w) hx
      refine awp_skip ?_
      refine awp_seq (awp_block ?_)
      all_goals refine awp_seq (awp_region (id := 5) ?_)
      all_goals refine awpOps_cons (op_mv rfl (Conv.of rfl) rfl) ?_
      all_goals refine awpOps_cons (op_ix sl26 rfl rfl rfl (by omega) hx) ?_
      all_goals refine awpOps_cons (op_ldr ty39 rfl rfl) ?_
      all_goals refine awpOps_cons (op_alloc (o := 1) z39 rfl rfl) ?_
      all_goals refine awpOps_cons (op_as rfl (Conv.of rfl) rfl) ?_
      all_goals refine awpOps_cons (op_st ty39 rfl rfl (Conv.of rfl) rfl) ?_
      all_goals refine awpOps_nil ?_
      refine awp_seq (awp_seq_to (s' := mkSt 63 [(1, .box 0 (IsLens.whole Wrld)), (4, .box 1 (IsLens.whole Nod)), (34, .v w.nodes), (35, .v (w.nodes.length : Int)), (36, .v (k : Int)), (57, .v (!(nodeOk a && decide (a.id = (k : Int) + 1) && decide (a.epoch = w.epoch))))] [(0, .cell w), (1, .cell a)]) ?_ ?_)
      · all_goals refine awp_region (id := 6) ?_
        all_goals refine awpOps_cons (op_ld ty39 rfl rfl rfl) ?_
        all_goals refine awpOps_cons (op_call fb56 (.cons rfl (Conv.of rfl) (.nil _)) (nodeOk_ct _) (argOk rfl rfl argOk0) rfl rfl) ?_
        all_goals refine awpOps_cons (op_not rfl rfl) ?_
        all_goals refine awpOps_cons (op_mv rfl (Conv.of rfl) rfl) ?_
        all_goals refine g_split (t := 44) rfl (fun h => ?_) (fun h => ?_)
        all_goals first | refine awpOps_cons (g_off rfl rfl rfl rfl rfl) ?_ | refine awpOps_cons (g_on rfl rfl rfl (op_fab f39_0 rfl rfl)) ?_
        all_goals first | refine awpOps_cons (g_off rfl rfl rfl rfl rfl) ?_ | refine awpOps_cons (g_on rfl rfl rfl (op_ld ty3 rfl rfl rfl)) ?_
        all_goals first | refine awpOps_cons (g_off rfl rfl rfl rfl rfl) ?_ | refine awpOps_cons (g_on rfl rfl rfl (op_mv rfl (Conv.of rfl) rfl)) ?_
        all_goals first | refine awpOps_cons (g_off rfl rfl rfl rfl rfl) ?_ | refine awpOps_cons (g_on rfl rfl rfl (op_add rfl rfl rfl (by omega))) ?_
        all_goals first | refine awpOps_cons (g_off rfl rfl rfl rfl rfl) ?_ | refine awpOps_cons (g_on rfl rfl rfl (op_neq rfl rfl rfl)) ?_
        all_goals refine awpOps_cons (op_pick rfl rfl rfl rfl) ?_
        all_goals refine awpOps_cons (op_mv rfl (Conv.of rfl) rfl) ?_
        all_goals first | refine g_lit (t := 51) (b := true) rfl ?_ | refine g_split (t := 51) rfl (fun h => ?_) (fun h => ?_)
        all_goals first | refine awpOps_cons (g_off rfl rfl rfl rfl rfl) ?_ | refine awpOps_cons (g_on rfl rfl rfl (op_fab f39_1 rfl rfl)) ?_
        all_goals first | refine awpOps_cons (g_off rfl rfl rfl rfl rfl) ?_ | refine awpOps_cons (g_on rfl rfl rfl (op_ld ty3 rfl rfl rfl)) ?_
        all_goals first | refine awpOps_cons (g_off rfl rfl rfl rfl rfl) ?_ | refine awpOps_cons (g_on rfl rfl rfl (op_fab f29_0 rfl rfl)) ?_
        all_goals first | refine awpOps_cons (g_off rfl rfl rfl rfl rfl) ?_ | refine awpOps_cons (g_on rfl rfl rfl (op_ld ty3 rfl rfl rfl)) ?_
        all_goals first | refine awpOps_cons (g_off rfl rfl rfl rfl rfl) ?_ | refine awpOps_cons (g_on rfl rfl rfl (op_neq rfl rfl rfl)) ?_
        all_goals refine awpOps_cons (op_pick rfl rfl rfl rfl) ?_
        all_goals refine awpOps_nil ?_
        all_goals exact Le.mk rfl (tlb rfl rfl rfl (tlb rfl rfl rfl (tle rfl (rfl) rfl (tle rfl (rfl) rfl (tle rfl (rfl) rfl (tle rfl (by (simp_all; try rfl)) rfl tln)))))) (olk rfl (by exact obOk_cell) (olk rfl (by exact obOk_cell) oln)) noS
      refine awp_cond rfl (fun h2 => ?_) (fun h2 => ?_)
      · all_goals refine awp_seq (awp_region (id := 7) ?_)
        all_goals refine awpOps_cons (op_as rfl (Conv.of rfl) rfl) ?_
        all_goals refine awpOps_nil ?_
        refine awp_ret ?_
        repeat first | refine rt_seq ?_ | refine rt_block ?_
        refine finP (.v rfl (Conv.of rfl)) rfl ?_
        show AV.v false = _
        rw [hall, hs, nodeIn, not_t h2, Bool.false_and, Bool.false_and]
      · have h2' := not_f h2
        refine awp_skip ?_
        all_goals refine awp_seq (awp_region (id := 8) ?_)
        all_goals refine awpOps_cons (op_fab f39_3 rfl rfl) ?_
        all_goals refine awpOps_cons (op_ld ty27 rfl rfl rfl) ?_
        all_goals refine awpOps_cons (op_mf (f := 58) .nil (.cons (r := .box 0 (IsLens.whole Wrld)) rfl (Conv.of rfl) .nil) rfl) ?_
        all_goals refine awpOps_callH rfl (fb57) (.cons rfl (Conv.of rfl) (.cons rfl (Conv.of rfl) (.nil _))) rfl (containsV_ct _ _ [] [.box 0 (IsLens.whole Wrld)] _ (fun v => !shownB w v) (fb58) (fun x hx => okFn_ct x _ w rfl rfl rfl (fun o => by by_cases e : o = 0 <;> by_cases e1 : o = 1 <;> simp [mkSt, st0, St.upd, lk, lk0, orr, e, e1, obOk, noObj] <;> exact plain_refs _)) (by intro z hz; simp [avs, FV.av] at hz; subst hz; exact ⟨rfl, fun o ho => by simp [AV.refs] at ho; subst ho; rfl⟩) (fun o => by by_cases e : o = 0 <;> by_cases e1 : o = 1 <;> simp [mkSt, st0, St.upd, lk, lk0, orr, e, e1, obOk, noObj] <;> exact plain_refs _)) (Hand.none (Hand.l1 (Hand.of rfl rfl) (Hand.l1 ⟨rfl, fun o ho => by simp [AV.refs, FV.refs] at ho; subst ho; rfl⟩ Hand.l0))) (fun o => by by_cases e : o = 0 <;> by_cases e1 : o = 1 <;> simp [mkSt, st0, St.upd, lk, lk0, orr, e, e1, obOk, noObj] <;> exact plain_refs _) rfl rfl ?_
        all_goals refine awpOps_nil ?_
        refine awp_cond rfl (fun h3 => ?_) (fun h3 => ?_)
        · all_goals refine awp_seq (awp_region (id := 9) ?_)
          all_goals refine awpOps_cons (op_as rfl (Conv.of rfl) rfl) ?_
          all_goals refine awpOps_nil ?_
          refine awp_ret ?_
          repeat first | refine rt_seq ?_ | refine rt_block ?_
          refine finP (.v rfl (Conv.of rfl)) rfl ?_
          show AV.v false = _
          rw [hall, hs, nodeIn, h3, Bool.not_true, Bool.and_false, Bool.false_and]
        · refine awp_skip ?_
          all_goals refine awp_region (id := 10) ?_
          all_goals refine awpOps_cons (op_add rfl rfl rfl (by omega)) ?_
          all_goals refine awpOps_cons (op_mv rfl (Conv.of rfl) rfl) ?_
          all_goals refine awpOps_nil ?_
          repeat first | refine nx_seq ?_ | refine nx_block ?_
          exact ⟨n_ - 1, _, by omega, ⟨k + 1, by omega, by rw [hall, hs, nodeIn, h2', h3]; rfl, rfl⟩, Le.mk rfl (tlb rfl rfl rfl (tle rfl (rfl) rfl (tle rfl (rfl) rfl (tle rfl (rfl) rfl tln)))) (olk rfl (by exact obOk_cell) oln) noS⟩
    · refine awp_exit ?_
      repeat refine ex_seq ?_
      refine ex_block ?_
      have hk : w.nodes.length ≤ k := by simpa using h
      all_goals refine awp_seq (awp_region (id := 11) ?_)
      all_goals refine awpOps_cons (op_as rfl (Conv.of rfl) rfl) ?_
      all_goals refine awpOps_nil ?_
      refine awp_ret ?_
      repeat first | refine rt_seq ?_ | refine rt_block ?_
      refine finP (.v rfl (Conv.of rfl)) rfl ?_
      show AV.v true = _
      rw [hall, drop_end hk]; rfl
theorem worldDoBad_ct (w : Wrld) (e : Evt) (h : worldOk w = false) : CtP Tryz.prog 25 [.v w, .v e] (.v Wrld.zero) := by
  refine Ct.intro Tryz.func25 rfl rfl ?_
  all_goals refine awp_seq (awp_region (id := 0) ?_)
  all_goals refine awpOps_cons (op_box (o := 0) ty29 rfl (Conv.of rfl) rfl rfl) ?_
  all_goals refine awpOps_cons (op_box (o := 1) ty50 rfl (Conv.of rfl) rfl rfl) ?_
  all_goals refine awpOps_cons (op_alloc (o := 2) z29 rfl rfl) ?_
  all_goals refine awpOps_nil ?_
  all_goals refine awp_seq (awp_seq (awp_region (id := 1) ?_))
  all_goals refine awpOps_cons (op_ld ty29 rfl rfl rfl) ?_
  all_goals refine awpOps_cons (op_call fb19 (.cons rfl (Conv.of rfl) (.nil _)) (worldOk_ct _) (argOk rfl rfl argOk0) rfl rfl) ?_
  all_goals refine awpOps_cons (op_not rfl rfl) ?_
  all_goals refine awpOps_nil ?_
  refine awp_cond rfl (fun h2 => ?_) (fun h2 => absurd (not_f h2) (by rw [h]; decide))
  all_goals refine awp_seq (awp_region (id := 2) ?_)
  all_goals refine awpOps_cons (op_build (.nil _) z29 rfl pl29 rfl) ?_
  all_goals refine awpOps_cons (op_st ty29 rfl rfl (Conv.of rfl) rfl) ?_
  all_goals refine awpOps_nil ?_
  refine awp_ret ?_
  repeat first | refine rt_seq ?_ | refine rt_block ?_
  exact finP (.rc ty29 rfl rfl) rfl rfl
theorem worldDoA_ct (w : Wrld) (e : Evt) (h : worldOk w = true) : Ct Tryz.prog 25 [.v w, .v e] noObj (fun r1 h1 => r1 = .v (WrldA.mk (doF w e).epoch (.ref 2) (doF w e).log (doF w e).bad) ∧ h1 = obs [(2, .arr (doF w e).nodes)]) := by
  have hf := (worldOk_iff.1 h).fx.fine
  have hfd := doF_fine e hf
  refine Ct.intro Tryz.func25 rfl rfl ?_
  all_goals refine awp_seq (awp_region (id := 0) ?_)
  all_goals refine awpOps_cons (op_box (o := 5) ty29 rfl (Conv.of rfl) rfl rfl) ?_
  all_goals refine awpOps_cons (op_box (o := 6) ty50 rfl (Conv.of rfl) rfl rfl) ?_
  all_goals refine awpOps_cons (op_alloc (o := 7) z29_WrldA rfl rfl) ?_
  all_goals refine awpOps_nil ?_
  all_goals refine awp_seq (awp_seq (awp_region (id := 1) ?_))
  all_goals refine awpOps_cons (op_ld ty29_Wrld rfl rfl rfl) ?_
  all_goals refine awpOps_cons (op_call fb19 (.cons rfl (Conv.of rfl) (.nil _)) (worldOk_ct _) (argOk rfl rfl argOk0) rfl rfl) ?_
  all_goals refine awpOps_cons (op_not rfl rfl) ?_
  all_goals refine awpOps_nil ?_
  refine awp_cond rfl (fun h2 => absurd (not_t h2) (by rw [h]; decide)) (fun h2 => ?_)
  refine awp_skip ?_
  all_goals refine awp_seq (awp_region (id := 3) ?_)
  all_goals refine awpOps_cons (op_ld ty29_Wrld rfl rfl rfl) ?_
  refine awpOps_callO [] rfl fb49 (.cons rfl (Conv.of rfl) (.nil _)) (copiedP_w w hf) ols0 oks0 (argOk' rfl rfl argO0) rfl ?_
  rintro r h' ⟨rfl, rfl⟩
  refine ⟨[(1, .arr w.nodes)], rfl, (fun o ho => by cases ho), fun o ho _ => ?_, oksk obOk_arr oks0, fun o ho => ?_, ?_⟩
  · have : o = 1 := by simpa [keys, lk0] using ho
    subst this; rfl
  · have : o = 1 := by simpa using (show o ∈ [1] from ho)
    subst this; rfl
  all_goals refine awpOps_cons (op_alloc (o := 0) z29_WrldA rfl rfl) ?_
  all_goals refine awpOps_cons (op_st ty29_WrldA rfl rfl (Conv.of rfl) rfl) ?_
  all_goals refine awpOps_nil ?_
  all_goals refine awp_seq (awp_region (id := 4) ?_)
  all_goals refine awpOps_cons (op_ld ty50 rfl rfl rfl) ?_
  all_goals refine awpOps_cons (op_callO fb48 (.cons rfl (Conv.of rfl) (.cons rfl (Conv.of rfl) (.nil _))) (do_ct w e hf) (olsk rfl (olsk rfl ols0)) (oksk (by exact obOkW rfl) (oksk (by exact obOk_arr) oks0)) (oksk (by exact obOkW rfl) (oksk (by exact obOk_arr) oks0)) rfl (argOb rfl rfl rfl (argOk' rfl rfl argO0)) (fun o ho => by cases ho) rfl) ?_
  all_goals refine awpOps_nil ?_
  all_goals refine awp_seq (awp_region (id := 5) ?_)
  all_goals refine awpOps_cons (op_ld ty29_WrldA rfl rfl rfl) ?_
  refine awpOps_callO [(1, .arr (doF w e).nodes)] rfl fb49 (.cons rfl (Conv.of rfl) (.nil _)) (copiedA_w _ hfd) (olsk rfl ols0) (oksk obOk_arr oks0) (argOb rfl rfl rfl argO0) rfl ?_
  rintro r h' ⟨rfl, rfl⟩
  refine ⟨[(1, .arr (doF w e).nodes), (2, .arr (doF w e).nodes)], rfl, fun o ho => ?_, fun o ho h1 => ?_, oksk obOk_arr (oksk obOk_arr oks0), fun o ho => ?_, ?_⟩
  · have : o = 1 := by simpa [keys, lk0] using ho
    subst this; rfl
  · by_cases e1 : o = 1
    · subst e1; cases h1
    · have : o = 2 := by simpa [keys, lk0, e1] using ho
      subst this; rfl
  · have : o = 2 := by simpa using (show o ∈ [2] from ho)
    subst this; rfl
  all_goals refine awpOps_cons (op_st ty29_WrldA rfl rfl (Conv.of rfl) rfl) ?_
  all_goals refine awpOps_nil ?_
  refine awp_ret ?_
  repeat first | refine rt_seq ?_ | refine rt_block ?_
  refine ⟨_, _, res1 (ol := [(2, .arr (doF w e).nodes)]) (.rc ty29_WrldA rfl rfl) (fun o ho => ?_) (olk rfl obOk_arr oln) noS, rfl, rfl⟩
  have : o = 2 := by simpa using (show o ∈ [2] from ho)
  subst this; rfl
def worldDoR (w : Wrld) (e : Evt) : Wrld := if worldOk w then doF w e else Wrld.zero
theorem worldDo_ct (w : Wrld) (e : Evt) : CtP Tryz.prog 25 [.v w, .v e] (.v (worldDoR w e)) := by
  unfold worldDoR
  cases h : worldOk w with
  | false => exact worldDoBad_ct w e h
  | true => exact Ct.frz (worldDoA_ct w e h) (frz_one (big4 (doF_fine e (worldOk_iff.1 h).fx.fine).four))
end Go.Proofs.YtompnmkpgffhkaaGreat

/- Quiet epochs: all votes are brought to all. -/
set_option linter.unusedVariables false
set_option linter.unusedSimpArgs false
namespace Go.Wt
def b4 (w : Wrld) (a : Int) : Wrld := wbringF (wbringF (wbringF (wbringF w a 1) a 2) a 3) a 4
def sprF : Nat → Nat → Wrld → Wrld
  | 0, _, w => w
  | n + 1, a, w => if a < w.log.length then sprF n (a + 1) (b4 w a) else w
def spreadF (w : Wrld) : Wrld := sprF 100 0 w
def calmF (w : Wrld) (p : Pay) : Wrld := spreadF (wproposeF (spreadF (tickF w)) (leader (spreadF (tickF w)).epoch) p)
def worldCalmR (w : Wrld) (pays : List Pay) : Wrld := if worldOk w && decide (pays.length ≤ 30) then pays.foldl calmF w else .zero
theorem sprF_stop {n a : Nat} {w : Wrld} (h : ¬ a < w.log.length) : sprF n a w = w := by
  cases n with
  | zero => rfl
  | succ n => simp only [sprF]; rw [if_neg h]
theorem sprF_go {n a : Nat} {w : Wrld} (h : a < w.log.length) : sprF (n + 1) a w = sprF n (a + 1) (b4 w a) := by simp only [sprF]; rw [if_pos h]
theorem bring_fine {w : Wrld} (h : Fine w) (a id : Int) : Fine (wbringF w a id) := doF_fine ⟨3, a, id, .zero, .zero⟩ h
theorem propose_fine {w : Wrld} (h : Fine w) (id : Int) (p : Pay) : Fine (wproposeF w id p) := doF_fine ⟨2, id, 0, p, .zero⟩ h
theorem tick_fine {w : Wrld} (h : Fine w) : Fine (tickF w) := doF_fine ⟨1, 0, 0, .zero, .zero⟩ h
def brN (w : Wrld) (a : Int) : Nat → Wrld
  | 0 => w
  | k + 1 => wbringF (brN w a k) a ((k : Int) + 1)
theorem brN_fine {w : Wrld} (h : Fine w) (a : Int) : ∀ k, Fine (brN w a k)
  | 0 => h
  | k + 1 => bring_fine (brN_fine h a k) a _
theorem b4_eq (w : Wrld) (a : Int) : brN w a 4 = b4 w a := rfl
theorem b4_fine {w : Wrld} (h : Fine w) (a : Int) : Fine (b4 w a) := brN_fine h a 4
theorem sprF_fine : ∀ (n a : Nat) {w : Wrld}, Fine w → Fine (sprF n a w)
  | 0, _, _, h => h
  | n + 1, a, w, h => by
    simp only [sprF]
    split
    · exact sprF_fine n (a + 1) (b4_fine h a)
    · exact h
theorem spread_fine {w : Wrld} (h : Fine w) : Fine (spreadF w) := sprF_fine 100 0 h
theorem calm_fine {w : Wrld} (h : Fine w) (p : Pay) : Fine (calmF w p) := spread_fine (propose_fine (spread_fine (tick_fine h)) _ p)
theorem calmFold_fine : ∀ (l : List Pay) {w : Wrld}, Fine w → Fine (l.foldl calmF w)
  | [], _, h => h
  | p :: l, _, h => calmFold_fine l (calm_fine h p)
/-! ### Lists without one twice -/
theorem nodup_len {α : Type} [DecidableEq α] : ∀ (l m : List α), l.Nodup → (∀ x ∈ l, x ∈ m) → l.length ≤ m.length
  | [], m, _, _ => Nat.zero_le _
  | x :: l, m, h, hs => by
    rw [List.nodup_cons] at h
    have hx := hs x (by simp)
    have := nodup_len l (m.erase x) h.2 fun y hy => (List.mem_erase_of_ne (show y ≠ x from fun e => h.1 (by rw [← e]; exact hy))).2 (hs y (by simp [hy]))
    rw [List.length_erase_of_mem hx] at this
    have := List.length_pos_of_mem hx
    simp only [List.length_cons]
    omega
theorem map_nodup {α β : Type} (f : α → β) : ∀ (l : List α), l.Nodup → (∀ x ∈ l, ∀ y ∈ l, f x = f y → x = y) → (l.map f).Nodup
  | [], _, _ => by simp
  | x :: l, h, hi => by
    rw [List.nodup_cons] at h
    rw [List.map_cons, List.nodup_cons]
    refine ⟨fun hm => ?_, map_nodup f l h.2 fun a ha b hb => hi a (by simp [ha]) b (by simp [hb])⟩
    obtain ⟨y, hy, e⟩ := List.mem_map.1 hm
    exact h.1 (hi y (by simp [hy]) x (by simp) e ▸ hy)
/-! ### What one event sends -/
theorem putF_log (w : Wrld) (k : Nat) (x : Nod × Vote × Bool) : (putF w k x).log = w.log ∨ (x.2.2 = true ∧ (putF w k x).log = w.log ++ [x.2.1]) := by
  unfold putF
  split
  · rename_i hx
    unfold sendF
    split
    · exact .inr ⟨hx, rfl⟩
    · exact .inl rfl
  · exact .inl rfl
theorem voteF_ch {n : Nod} {c : List Itm} (h : (voteF n c).2.2 = true) : (voteF n c).2.1.chain = c := by
  unfold voteF at h ⊢
  split at h
  · cases h
  · rename_i hh; rw [if_neg hh]
theorem tryF_last {n : Nod} : ∀ {l : List Vote}, (tryF n l).2.2 = true → lastEp (tryF n l).2.1.chain = n.epoch
  | [], h => by cases h
  | u :: r, h => by
    simp only [tryF] at h ⊢
    split at h
    · rename_i hf
      rw [if_pos hf, voteF_ch h]
      simp only [fits, Bool.and_eq_true, decide_eq_true_eq] at hf
      exact hf.1.1.2
    · rename_i hf; rw [if_neg hf]; exact tryF_last h
theorem hear_last {n : Nod} {v : Vote} (h : (hearF n v).2.2 = true) : lastEp (hearF n v).2.1.chain = n.epoch := by
  unfold hearF at h ⊢
  split at h
  · rename_i h1
    rw [if_pos h1]
    split at h
    · rename_i h2
      rw [if_pos h2, tryF_last h, (seeF_epoch n v).1]
    · cases h
  · cases h
theorem propose_last {n : Nod} {p : Pay} (h : (proposeF n p).2.2 = true) : lastEp (proposeF n p).2.1.chain = n.epoch := by
  rcases propose_cases n p with e | ⟨c, hc, e⟩
  · rw [e] at h; cases h
  · rw [e] at h ⊢; rw [voteF_ch h]; exact hc.last
/-- At most one vote is sent, by one that does not lie, of this epoch. -/
def Sent (w w' : Wrld) : Prop := w'.epoch = w.epoch ∧ w'.bad = w.bad ∧ (w'.log = w.log ∨ ∃ v, w'.log = w.log ++ [v] ∧ v.by_ ≠ w.bad ∧ lastEp v.chain = w.epoch)
theorem Sent.refl (w : Wrld) : Sent w w := ⟨rfl, rfl, .inl rfl⟩
theorem putF_eb (w : Wrld) (k : Nat) (x : Nod × Vote × Bool) : (putF w k x).epoch = w.epoch ∧ (putF w k x).bad = w.bad := by
  unfold putF sendF
  split
  · split <;> exact ⟨rfl, rfl⟩
  · exact ⟨rfl, rfl⟩
theorem Sent.bring {w : Wrld} (h : Inv w) (a id : Int) : Sent w (wbringF w a id) := by
  unfold wbringF
  split
  · rename_i hh
    simp only [honestB, Bool.and_eq_true, Bool.not_eq_true', decide_eq_false_iff_not, decide_eq_true_eq] at hh
    have hid : 1 ≤ id ∧ id ≤ 4 := by simpa [within] using hh.1.1.1
    split
    · rename_i n v hn hv
      have hi := node_id h hid hn
      have hN := h.nodes _ n hn
      refine ⟨(putF_eb _ _ _).1, (putF_eb _ _ _).2, ?_⟩
      rcases putF_log w (id - 1).toNat (hearF n v) with e | ⟨hx, e⟩
      · exact .inl e
      · exact .inr ⟨_, e, by rw [hear_by hx, hi]; exact hh.1.1.2, by rw [hear_last hx, hN.ep]⟩
    · exact Sent.refl w
  · exact Sent.refl w
theorem Sent.propose {w : Wrld} (h : Inv w) (id : Int) (p : Pay) : Sent w (wproposeF w id p) := by
  unfold wproposeF
  split
  · rename_i hh
    simp only [honestB, Bool.and_eq_true, Bool.not_eq_true', decide_eq_false_iff_not, decide_eq_true_eq] at hh
    have hid : 1 ≤ id ∧ id ≤ 4 := by simpa [within] using hh.1.1.1
    split
    · rename_i n hn
      have hi := node_id h hid hn
      have hN := h.nodes _ n hn
      refine ⟨(putF_eb _ _ _).1, (putF_eb _ _ _).2, ?_⟩
      rcases putF_log w (id - 1).toNat (proposeF n p) with e | ⟨hx, e⟩
      · exact .inl e
      · exact .inr ⟨_, e, by rw [propose_by hx, hi]; exact hh.1.1.2, by rw [propose_last hx, hN.ep]⟩
    · exact Sent.refl w
  · exact Sent.refl w
/-- An epoch that began with these votes sent. -/
structure Ep (L0 : List Vote) (e bad : Int) (w : Wrld) : Prop where
  inv : Inv w
  ep : w.epoch = e
  bd : w.bad = bad
  new : ∃ N, w.log = L0 ++ N ∧ ∀ v ∈ N, v.by_ ≠ bad ∧ lastEp v.chain = e
theorem Ep.sent {L0 : List Vote} {e bad : Int} {w w' : Wrld} (h : Ep L0 e bad w) (hI : Inv w') (hs : Sent w w') : Ep L0 e bad w' := by
  obtain ⟨N, hN, hv⟩ := h.new
  refine ⟨hI, by rw [hs.1, h.ep], by rw [hs.2.1, h.bd], ?_⟩
  rcases hs.2.2 with e' | ⟨v, e', h1, h2⟩
  · exact ⟨N, by rw [e', hN], hv⟩
  · refine ⟨N ++ [v], by rw [e', hN, List.append_assoc], fun u hu => ?_⟩
    rcases List.mem_append.1 hu with hu | hu
    · exact hv u hu
    · simp at hu; subst hu
      exact ⟨by rw [← h.bd]; exact h1, by rw [← h.ep]; exact h2⟩
theorem Ep.bring {L0 : List Vote} {e bad : Int} {w : Wrld} (h : Ep L0 e bad w) (a id : Int) : Ep L0 e bad (wbringF w a id) := h.sent (h.inv.bring a id) (Sent.bring h.inv a id)
theorem Ep.propose {L0 : List Vote} {e bad : Int} {w : Wrld} (h : Ep L0 e bad w) (id : Int) (p : Pay) : Ep L0 e bad (wproposeF w id p) := h.sent (h.inv.propose id p) (Sent.propose h.inv id p)
theorem Ep.b4 {L0 : List Vote} {e bad : Int} {w : Wrld} (h : Ep L0 e bad w) (a : Int) : Ep L0 e bad (b4 w a) := (((h.bring a 1).bring a 2).bring a 3).bring a 4
theorem log_nodup {w : Wrld} (h : Inv w) : w.log.Nodup := (votesOk_iff.1 h.ok.log).2
/-- Each sends one at most. -/
theorem Ep.four {L0 : List Vote} {e bad : Int} {w : Wrld} (h : Ep L0 e bad w) : w.log.length ≤ L0.length + 4 := by
  obtain ⟨N, hN, hv⟩ := h.new
  have hnd := log_nodup h.inv
  rw [hN, List.nodup_append] at hnd
  have hm : ∀ v ∈ N, v ∈ w.log := fun v hv' => by rw [hN]; exact List.mem_append_right _ hv'
  have hinj := map_nodup Vote.by_ N hnd.2.1 fun u hu v hv' e' => h.inv.safe.one u (hm u hu) v (hm v hv') e' (by rw [h.bd]; exact (hv u hu).1) (by rw [(hv u hu).2, (hv v hv').2])
  have hle := nodup_len (N.map Vote.by_) [1, 2, 3, 4] hinj fun x hx => by
    obtain ⟨v, hv', rfl⟩ := List.mem_map.1 hx
    have := votesOk_mem h.inv.ok.log v (hm v hv')
    simp only [voteOk, Bool.and_eq_true, within, decide_eq_true_eq] at this
    have h1 := this.1.1
    simp only [List.mem_cons, List.not_mem_nil, or_false]
    omega
  rw [hN, List.length_append]
  simp at hle
  omega
theorem Ep.tick {w : Wrld} (h : Inv w) (h30 : w.epoch + 1 ≤ 30) : Ep w.log (w.epoch + 1) w.bad (tickF w) :=
  ⟨h.tick, by show min (w.epoch + 1) 30 = _; omega, rfl, [], by simp [tickF], fun v hv => by cases hv⟩
theorem Grw.bring (w : Wrld) (a id : Int) : Grw w (wbringF w a id) := Grw.do w ⟨3, a, id, .zero, .zero⟩
theorem Grw.propose (w : Wrld) (id : Int) (p : Pay) : Grw w (wproposeF w id p) := Grw.do w ⟨2, id, 0, p, .zero⟩
theorem Grw.tick (w : Wrld) : Grw w (tickF w) := Grw.do w ⟨1, 0, 0, .zero, .zero⟩
theorem Grw.b4 (w : Wrld) (a : Int) : Grw w (b4 w a) := (((Grw.bring w a 1).trans (Grw.bring _ a 2)).trans (Grw.bring _ a 3)).trans (Grw.bring _ a 4)
/-- Who is brought a vote has seen it. -/
theorem hearF_has {n : Nod} {v : Vote} (hv : voteOk v = true) (hb : v.by_ ≠ n.id) (hl : n.seen.length < 80) : v ∈ (hearF n v).1.seen := by
  have hs : v ∈ (seeF n v).seen := by
    unfold seeF
    split
    · rename_i h; simpa using h
    · simp
  unfold hearF
  rw [if_pos (by simp [hv, hb, hl])]
  split
  · exact tryF_seen _ _ _ hs
  · exact hs
theorem seen_le {w : Wrld} (h : Inv w) {k : Nat} {n : Nod} (hn : w.nodes[k]? = some n) (hb : (k : Int) + 1 ≠ w.bad) : n.seen.length ≤ w.log.length := by
  have hN := h.nodes k n hn
  exact nodup_len _ _ (votesOk_iff.1 (nodeOk_seen (h.ok.nodes n (List.mem_of_getElem? hn))).1).2 (hN.sub (by rw [hN.id]; exact hb))
theorem node_at {w : Wrld} (h : Inv w) {k : Nat} (hk : k < 4) : ∃ n, w.nodes[k]? = some n := ⟨_, List.getElem?_eq_getElem (by have := h.ok.four; omega)⟩
theorem bring_has {w : Wrld} (h : Inv w) {a k : Nat} {v : Vote} (hk : k < 4) (hb : (k : Int) + 1 ≠ w.bad) (ha : w.log[a]? = some v) (hl : w.log.length < 80) : ∃ n, (wbringF w a ((k : Int) + 1)).nodes[k]? = some n ∧ v ∈ n.seen := by
  obtain ⟨n, hn⟩ := node_at h hk
  have hN := h.nodes k n hn
  have hk' : ((k : Int) + 1 - 1).toNat = k := by omega
  have hal := (List.getElem?_eq_some_iff.1 ha).1
  have hidb : n.id ≠ w.bad := by rw [hN.id]; exact hb
  unfold wbringF
  rw [if_pos (by simp only [honestB, within, Bool.and_eq_true, decide_eq_true_eq, Bool.not_eq_true', decide_eq_false_iff_not]; omega), hk', hn]
  simp only [Int.toNat_natCast, ha]
  refine ⟨(hearF n v).1, by rw [put_nodes', List.getElem?_set_self (by have := h.ok.four; omega)], ?_⟩
  by_cases hby : v.by_ = n.id
  · exact hearF_seen n v v (hN.own hidb v (List.mem_of_getElem? ha) hby)
  · exact hearF_has (votesOk_mem h.ok.log v (List.mem_of_getElem? ha)) hby (by have := seen_le h hn hb; omega)
/-- All that do not lie have seen what was sent first. -/
def Had (a : Nat) (w : Wrld) : Prop := ∀ (j : Nat) (v : Vote), j < a → w.log[j]? = some v → ∀ (k : Nat) (n : Nod), w.nodes[k]? = some n → (k : Int) + 1 ≠ w.bad → v ∈ n.seen
theorem Grw.node {w w' : Wrld} (h : Grw w w') (hI : Inv w) (hI' : Inv w') {k : Nat} {v : Vote} (hx : ∃ n, w.nodes[k]? = some n ∧ v ∈ n.seen) : ∃ n, w'.nodes[k]? = some n ∧ v ∈ n.seen := by
  obtain ⟨n, hn, hv⟩ := hx
  obtain ⟨m, hm, hs⟩ := h.seen k n hn
  exact ⟨m, hm, hs v hv⟩
def LogPre (w w' : Wrld) : Prop := ∃ N, w'.log = w.log ++ N
theorem LogPre.refl (w : Wrld) : LogPre w w := ⟨[], by simp⟩
theorem LogPre.trans {a b c : Wrld} (h : LogPre a b) (k : LogPre b c) : LogPre a c := by
  obtain ⟨N, h⟩ := h
  obtain ⟨M, k⟩ := k
  exact ⟨N ++ M, by rw [k, h, List.append_assoc]⟩
theorem Sent.pre {w w' : Wrld} (h : Sent w w') : LogPre w w' := by
  rcases h.2.2 with e | ⟨v, e, _⟩
  · exact ⟨[], by simp [e]⟩
  · exact ⟨[v], e⟩
theorem LogPre.at {w w' : Wrld} (h : LogPre w w') {j : Nat} {v : Vote} (hj : w.log[j]? = some v) : w'.log[j]? = some v := by
  obtain ⟨N, h⟩ := h
  rw [h, List.getElem?_append_left (List.getElem?_eq_some_iff.1 hj).1, hj]
theorem b4_has {L0 : List Vote} {e bad : Int} {w : Wrld} (h : Ep L0 e bad w) (hL : L0.length + 4 < 80) {a k : Nat} {v : Vote} (hk : k < 4) (hb : (k : Int) + 1 ≠ bad) (ha : w.log[a]? = some v) : ∃ n, (b4 w a).nodes[k]? = some n ∧ v ∈ n.seen := by
  have e1 := h.bring a 1
  have e2 := e1.bring a 2
  have e3 := e2.bring a 3
  have e4 := e3.bring a 4
  have a1 := (Sent.bring h.inv a 1).pre.at ha
  have a2 := (Sent.bring e1.inv a 2).pre.at a1
  have a3 := (Sent.bring e2.inv a 3).pre.at a2
  have l0 := h.four
  have l1 := e1.four
  have l2 := e2.four
  have l3 := e3.four
  have hcase : k = 0 ∨ k = 1 ∨ k = 2 ∨ k = 3 := by omega
  rcases hcase with rfl | rfl | rfl | rfl
  · exact ((Grw.bring _ a 2).trans ((Grw.bring _ a 3).trans (Grw.bring _ a 4))).node e1.inv e4.inv (bring_has h.inv (k := 0) (by omega) (by rw [h.bd]; exact hb) ha (by omega))
  · exact ((Grw.bring _ a 3).trans (Grw.bring _ a 4)).node e2.inv e4.inv (bring_has e1.inv (k := 1) (by omega) (by rw [e1.bd]; exact hb) a1 (by omega))
  · exact (Grw.bring _ a 4).node e3.inv e4.inv (bring_has e2.inv (k := 2) (by omega) (by rw [e2.bd]; exact hb) a2 (by omega))
  · exact bring_has e3.inv (k := 3) (by omega) (by rw [e3.bd]; exact hb) a3 (by omega)
theorem b4_pre {L0 : List Vote} {e bad : Int} {w : Wrld} (h : Ep L0 e bad w) (a : Int) : LogPre w (b4 w a) :=
  (((Sent.bring h.inv a 1).pre.trans (Sent.bring (h.bring a 1).inv a 2).pre).trans (Sent.bring ((h.bring a 1).bring a 2).inv a 3).pre).trans (Sent.bring (((h.bring a 1).bring a 2).bring a 3).inv a 4).pre
theorem Had.b4 {L0 : List Vote} {e bad : Int} {w : Wrld} (h : Ep L0 e bad w) (hL : L0.length + 4 < 80) {a : Nat} (ha : a < w.log.length) (hh : Had a w) : Had (a + 1) (b4 w a) := fun j v hj hv k n hn hb => by
  have h' := h.b4 a
  have hk : k < 4 := by have := h'.inv.ok.four; have := (List.getElem?_eq_some_iff.1 hn).1; omega
  have hjl : j < w.log.length := by omega
  have hv0 : w.log[j]? = some w.log[j] := List.getElem?_eq_getElem hjl
  have hv1 := (b4_pre h a).at hv0
  rw [hv] at hv1
  injection hv1 with hv1
  rw [← hv1] at hv0
  have hbad : (k : Int) + 1 ≠ bad := by rw [← h'.bd]; exact hb
  by_cases e : j = a
  · subst e
    obtain ⟨m, hm, hmv⟩ := b4_has h hL hk hbad hv0
    rw [hn] at hm; injection hm with hm; subst hm; exact hmv
  · obtain ⟨n0, hn0⟩ := node_at h.inv hk
    have := hh j v (by omega) hv0 k n0 hn0 (by rw [h.bd]; exact hbad)
    obtain ⟨m, hm, hmv⟩ := (Grw.b4 w a).node h.inv h'.inv ⟨n0, hn0, this⟩
    rw [hn] at hm; injection hm with hm; subst hm; exact hmv
theorem sprF_ep {L0 : List Vote} {e bad : Int} (hL : L0.length + 4 < 80) : ∀ (n a : Nat) {w : Wrld}, 80 ≤ n + a → Ep L0 e bad w → Had a w → Ep L0 e bad (sprF n a w) ∧ Had (sprF n a w).log.length (sprF n a w) ∧ Grw w (sprF n a w) ∧ LogPre w (sprF n a w)
  | 0, a, w, hf, h, hh => ⟨h, fun j v hj hv => hh j v (by have := h.four; simp only [sprF] at hj; omega) hv, Grw.refl w, LogPre.refl w⟩
  | n + 1, a, w, hf, h, hh => by
    by_cases ha : a < w.log.length
    · rw [sprF_go ha]
      obtain ⟨r1, r3, r4, r5⟩ := sprF_ep hL n (a + 1) (by omega) (h.b4 a) (Had.b4 h hL ha hh)
      exact ⟨r1, r3, (Grw.b4 w a).trans r4, (b4_pre h a).trans r5⟩
    · rw [sprF_stop ha]
      exact ⟨h, fun j v hj hv => hh j v (by omega) hv, Grw.refl w, LogPre.refl w⟩
theorem Ep.spread {L0 : List Vote} {e bad : Int} {w : Wrld} (hL : L0.length + 4 < 80) (h : Ep L0 e bad w) : Ep L0 e bad (spreadF w) ∧ Had (spreadF w).log.length (spreadF w) ∧ Grw w (spreadF w) ∧ LogPre w (spreadF w) := by
  obtain ⟨a, c, d, e⟩ := sprF_ep hL 100 0 (by omega) h (fun j v hj => absurd hj (by omega))
  exact ⟨a, c, d, e⟩
theorem Ep.calm {w : Wrld} (p : Pay) (h : Inv w) (h30 : w.epoch + 1 ≤ 30) (hL : w.log.length + 4 < 80) : Ep w.log (w.epoch + 1) w.bad (calmF w p) ∧ Had (calmF w p).log.length (calmF w p) ∧ Grw w (calmF w p) ∧ LogPre w (calmF w p) := by
  have h1 := Ep.tick h h30
  obtain ⟨h2, _, g2, l2⟩ := Ep.spread hL h1
  have h3 := h2.propose (leader (spreadF (tickF w)).epoch) p
  obtain ⟨h4, c4, g4, l4⟩ := Ep.spread hL h3
  exact ⟨h4, c4, ((Grw.tick w).trans g2).trans ((Grw.propose _ _ _).trans g4), (LogPre.trans ⟨[], by simp [tickF]⟩ l2).trans ((Sent.propose h2.inv _ _).pre.trans l4)⟩
/-- All that do not lie have seen all. -/
theorem had_all {w : Wrld} (h : Inv w) (hh : Had w.log.length w) {k : Nat} {n : Nod} (hn : w.nodes[k]? = some n) (hb : (k : Int) + 1 ≠ w.bad) : (∀ v ∈ w.log, v ∈ n.seen) ∧ (∀ v ∈ n.seen, v ∈ w.log) ∧ n.seen.length = w.log.length := by
  have hN := h.nodes k n hn
  have h1 : ∀ v ∈ w.log, v ∈ n.seen := fun v hv => by
    obtain ⟨j, hj⟩ := List.mem_iff_getElem?.1 hv
    exact hh j v (List.getElem?_eq_some_iff.1 hj).1 hj k n hn hb
  have h2 := hN.sub (by rw [hN.id]; exact hb)
  have := seen_le h hn hb
  have := nodup_len _ _ (log_nodup h) h1
  exact ⟨h1, h2, by omega⟩
end Go.Wt
namespace Go.Wt
/-! ### What comes late -/
def lateF (w : Wrld) (id : Int) : Nat → Wrld
  | 0 => w
  | k + 1 => doF (lateF w id k) ⟨3, (k : Int), id, .zero, .zero⟩
theorem late_inv {w : Wrld} (h : Inv w) (id : Int) : ∀ k, Inv (lateF w id k)
  | 0 => h
  | k + 1 => (late_inv h id k).do _
theorem late_grw (w : Wrld) (id : Int) : ∀ k, Grw w (lateF w id k)
  | 0 => Grw.refl w
  | k + 1 => (late_grw w id k).trans (Grw.do _ _)
theorem late_bad (w : Wrld) (id : Int) : ∀ k, (lateF w id k).bad = w.bad
  | 0 => rfl
  | k + 1 => (doF_bad _ _).trans (late_bad w id k)
end Go.Wt

/- Quiet epochs. -/
set_option linter.unusedVariables false
set_option linter.unusedSimpArgs false
namespace Go.Proofs.YtompnmkpgffhkaaGreat
open Go Go.Wt
set_option maxHeartbeats 1000000 in
theorem spread_ct (w : Wrld) (hw : Fine w) : CtO Tryz.prog 121 [.box 0 (IsLens.whole WrldA)] (wo w) (.tup []) (wo (spreadF w)) := by
  refine Ct.intro Tryz.func121 rfl rfl ?_
  all_goals first | refine awp_seq (awp_region (id := 0) ?_) | refine awp_seq (awp_seq (awp_region (id := 0) ?_)) | refine awp_region (id := 0) ?_ | refine awp_seq (awp_seq (awp_seq (awp_region (id := 0) ?_)))
  all_goals refine awpOps_cons (op_as rfl (Conv.of rfl) rfl) ?_
  all_goals refine awpOps_nil ?_
  first | refine awp_seq (awp_block ?_) | refine awp_seq (awp_seq (awp_block ?_)) | refine awp_block ?_ | refine awp_seq (awp_seq (awp_seq (awp_block ?_)))
  first | refine awp_seq (awp_loop' (fun n_ s => ∃ (a : Nat), ∃ (x : Wrld), ∃ (hx : Fine x), ∃ (he : sprF (100 - a) a x = spreadF w), ∃ (hn : n_ + a = 100), s = mkSt 21 [(0, .box 0 (IsLens.whole WrldA)), (2, .v (a : Int))] [(0, .cell (wA x)), (1, .arr x.nodes)]) (100) ⟨0, w, hw, rfl, by omega, rfl⟩ (Le.mk rfl (tlb rfl rfl rfl (tle rfl (rfl) rfl tln)) (olk rfl (by first | exact obOk_cell | exact obOk_arr | exact obOkW rfl | exact obOkW0 | exact obOkN | exact obOkS rfl | exact obOkNs | exact obOkS0 | trivial) (olk rfl (by first | exact obOk_cell | exact obOk_arr | exact obOkW rfl | exact obOkW0 | exact obOkN | exact obOkS rfl | exact obOkNs | exact obOkS0 | trivial) oln)) (hS_sub (a := wo w) rfl)) ?_) | refine awp_seq (awp_seq (awp_loop' (fun n_ s => ∃ (a : Nat), ∃ (x : Wrld), ∃ (hx : Fine x), ∃ (he : sprF (100 - a) a x = spreadF w), ∃ (hn : n_ + a = 100), s = mkSt 21 [(0, .box 0 (IsLens.whole WrldA)), (2, .v (a : Int))] [(0, .cell (wA x)), (1, .arr x.nodes)]) (100) ⟨0, w, hw, rfl, by omega, rfl⟩ (Le.mk rfl (tlb rfl rfl rfl (tle rfl (rfl) rfl tln)) (olk rfl (by first | exact obOk_cell | exact obOk_arr | exact obOkW rfl | exact obOkW0 | exact obOkN | exact obOkS rfl | exact obOkNs | exact obOkS0 | trivial) (olk rfl (by first | exact obOk_cell | exact obOk_arr | exact obOkW rfl | exact obOkW0 | exact obOkN | exact obOkS rfl | exact obOkNs | exact obOkS0 | trivial) oln)) (hS_sub (a := wo w) rfl)) ?_)) | refine awp_loop' (fun n_ s => ∃ (a : Nat), ∃ (x : Wrld), ∃ (hx : Fine x), ∃ (he : sprF (100 - a) a x = spreadF w), ∃ (hn : n_ + a = 100), s = mkSt 21 [(0, .box 0 (IsLens.whole WrldA)), (2, .v (a : Int))] [(0, .cell (wA x)), (1, .arr x.nodes)]) (100) ⟨0, w, hw, rfl, by omega, rfl⟩ (Le.mk rfl (tlb rfl rfl rfl (tle rfl (rfl) rfl tln)) (olk rfl (by first | exact obOk_cell | exact obOk_arr | exact obOkW rfl | exact obOkW0 | exact obOkN | exact obOkS rfl | exact obOkNs | exact obOkS0 | trivial) (olk rfl (by first | exact obOk_cell | exact obOk_arr | exact obOkW rfl | exact obOkW0 | exact obOkN | exact obOkS rfl | exact obOkNs | exact obOkS0 | trivial) oln)) (hS_sub (a := wo w) rfl)) ?_ | refine awp_seq (awp_seq (awp_seq (awp_loop' (fun n_ s => ∃ (a : Nat), ∃ (x : Wrld), ∃ (hx : Fine x), ∃ (he : sprF (100 - a) a x = spreadF w), ∃ (hn : n_ + a = 100), s = mkSt 21 [(0, .box 0 (IsLens.whole WrldA)), (2, .v (a : Int))] [(0, .cell (wA x)), (1, .arr x.nodes)]) (100) ⟨0, w, hw, rfl, by omega, rfl⟩ (Le.mk rfl (tlb rfl rfl rfl (tle rfl (rfl) rfl tln)) (olk rfl (by first | exact obOk_cell | exact obOk_arr | exact obOkW rfl | exact obOkW0 | exact obOkN | exact obOkS rfl | exact obOkNs | exact obOkS0 | trivial) (olk rfl (by first | exact obOk_cell | exact obOk_arr | exact obOkW rfl | exact obOkW0 | exact obOkN | exact obOkS rfl | exact obOkNs | exact obOkS0 | trivial) oln)) (hS_sub (a := wo w) rfl)) ?_)))
  rintro n_ s ⟨a, x, hx, he, hn, rfl⟩
  all_goals first | refine awp_seq (awp_region (id := 1) ?_) | refine awp_seq (awp_seq (awp_region (id := 1) ?_)) | refine awp_region (id := 1) ?_ | refine awp_seq (awp_seq (awp_seq (awp_region (id := 1) ?_)))
  all_goals first | refine awpOps_cons (op_mv rfl (Conv.of rfl) rfl) ?_ | refine awpOps_cons (op_mvl rfl rfl rfl rfl) ?_ | refine awpOps_cons (op_mvo rfl rfl rfl rfl) ?_
  all_goals first | refine awpOps_cons (op_mv rfl (Conv.of rfl) rfl) ?_ | refine awpOps_cons (op_mvl rfl rfl rfl rfl) ?_ | refine awpOps_cons (op_mvo rfl rfl rfl rfl) ?_
  all_goals first | refine awpOps_cons (op_nilc_box rfl rfl) ?_ | refine awpOps_cons (op_nilc_elm rfl rfl) ?_
  all_goals first | refine awpOps_cons (op_fab f29_2_WrldA rfl rfl) ?_ | refine awpOps_cons (op_far f29_2_WrldA rfl rfl) ?_ | refine awpOps_cons (op_fae f29_2_WrldA rfl rfl) ?_
  all_goals first | refine awpOps_cons (op_ld ty27 rfl rfl rfl) ?_ | refine awpOps_cons (op_ldr ty27 rfl rfl) ?_ | refine awpOps_cons (op_lde ty27 rfl rfl (by assumption) rfl) ?_ | refine awpOps_cons (op_ldl ty27 rfl rfl rfl) ?_ | refine awpOps_cons (op_ldd ty27 rfl rfl rfl) ?_ | refine awpOps_cons (op_ldde ty27 rfl rfl (by assumption) rfl) ?_
  all_goals first | refine awpOps_cons (op_len sl27 rfl rfl) ?_ | refine awpOps_cons (op_lenA sl27 rfl rfl rfl) ?_
  all_goals refine awpOps_cons (op_lss rfl rfl rfl) ?_
  all_goals refine awpOps_nil ?_
  first | refine awp_seq (awp_cond rfl (fun h => ?_) (fun h => ?_)) | refine awp_seq (awp_seq (awp_cond rfl (fun h => ?_) (fun h => ?_))) | refine awp_cond rfl (fun h => ?_) (fun h => ?_) | refine awp_seq (awp_seq (awp_seq (awp_cond rfl (fun h => ?_) (fun h => ?_))))
  · have ha : a < x.log.length := by simpa using h
    have hll := hx.ll
    refine awp_skip ?_
    first | refine awp_seq (awp_block ?_) | refine awp_seq (awp_seq (awp_block ?_)) | refine awp_block ?_ | refine awp_seq (awp_seq (awp_seq (awp_block ?_)))
    all_goals first | refine awp_seq (awp_region (id := 3) ?_) | refine awp_seq (awp_seq (awp_region (id := 3) ?_)) | refine awp_region (id := 3) ?_ | refine awp_seq (awp_seq (awp_seq (awp_region (id := 3) ?_)))
    all_goals refine awpOps_cons (op_as rfl (Conv.of rfl) rfl) ?_
    all_goals refine awpOps_nil ?_
    first | refine awp_seq (awp_seq (awp_seq (awp_seq_to (s' := mkSt 21 [(0, .box 0 (IsLens.whole WrldA)), (2, .v (a : Int))] [(0, .cell (wA (b4 x a))), (1, .arr (b4 x a).nodes)]) ?_ ?_))) | refine awp_seq (awp_seq (awp_seq_to (s' := mkSt 21 [(0, .box 0 (IsLens.whole WrldA)), (2, .v (a : Int))] [(0, .cell (wA (b4 x a))), (1, .arr (b4 x a).nodes)]) ?_ ?_)) | refine awp_seq (awp_seq_to (s' := mkSt 21 [(0, .box 0 (IsLens.whole WrldA)), (2, .v (a : Int))] [(0, .cell (wA (b4 x a))), (1, .arr (b4 x a).nodes)]) ?_ ?_) | refine awp_seq_to (s' := mkSt 21 [(0, .box 0 (IsLens.whole WrldA)), (2, .v (a : Int))] [(0, .cell (wA (b4 x a))), (1, .arr (b4 x a).nodes)]) ?_ ?_ | refine awp_toB (s' := mkSt 21 [(0, .box 0 (IsLens.whole WrldA)), (2, .v (a : Int))] [(0, .cell (wA (b4 x a))), (1, .arr (b4 x a).nodes)]) ?_ ?_ | refine awp_to (s' := mkSt 21 [(0, .box 0 (IsLens.whole WrldA)), (2, .v (a : Int))] [(0, .cell (wA (b4 x a))), (1, .arr (b4 x a).nodes)]) ?_ ?_
    · first | refine awp_seq (awp_block ?_) | refine awp_seq (awp_seq (awp_block ?_)) | refine awp_block ?_ | refine awp_seq (awp_seq (awp_seq (awp_block ?_)))
      first | refine awp_seq (awp_loop' (fun n_ s => ∃ (k : Nat), ∃ (hk : n_ + k = 4), s = mkSt 21 [(0, .box 0 (IsLens.whole WrldA)), (2, .v (a : Int)), (3, .v ((k : Int) + 1))] [(0, .cell (wA (brN x a k))), (1, .arr (brN x a k).nodes)]) (4) ⟨0, by omega, rfl⟩ (Le.mk rfl (tlb rfl rfl rfl (tle rfl (rfl) rfl (tle rfl (rfl) rfl tln))) (olk rfl (by first | exact obOk_cell | exact obOk_arr | exact obOkW rfl | exact obOkW0 | exact obOkN | exact obOkS rfl | exact obOkNs | exact obOkS0 | trivial) (olk rfl (by first | exact obOk_cell | exact obOk_arr | exact obOkW rfl | exact obOkW0 | exact obOkN | exact obOkS rfl | exact obOkNs | exact obOkS0 | trivial) oln)) (hS_sub (a := wo w) rfl)) ?_) | refine awp_seq (awp_seq (awp_loop' (fun n_ s => ∃ (k : Nat), ∃ (hk : n_ + k = 4), s = mkSt 21 [(0, .box 0 (IsLens.whole WrldA)), (2, .v (a : Int)), (3, .v ((k : Int) + 1))] [(0, .cell (wA (brN x a k))), (1, .arr (brN x a k).nodes)]) (4) ⟨0, by omega, rfl⟩ (Le.mk rfl (tlb rfl rfl rfl (tle rfl (rfl) rfl (tle rfl (rfl) rfl tln))) (olk rfl (by first | exact obOk_cell | exact obOk_arr | exact obOkW rfl | exact obOkW0 | exact obOkN | exact obOkS rfl | exact obOkNs | exact obOkS0 | trivial) (olk rfl (by first | exact obOk_cell | exact obOk_arr | exact obOkW rfl | exact obOkW0 | exact obOkN | exact obOkS rfl | exact obOkNs | exact obOkS0 | trivial) oln)) (hS_sub (a := wo w) rfl)) ?_)) | refine awp_loop' (fun n_ s => ∃ (k : Nat), ∃ (hk : n_ + k = 4), s = mkSt 21 [(0, .box 0 (IsLens.whole WrldA)), (2, .v (a : Int)), (3, .v ((k : Int) + 1))] [(0, .cell (wA (brN x a k))), (1, .arr (brN x a k).nodes)]) (4) ⟨0, by omega, rfl⟩ (Le.mk rfl (tlb rfl rfl rfl (tle rfl (rfl) rfl (tle rfl (rfl) rfl tln))) (olk rfl (by first | exact obOk_cell | exact obOk_arr | exact obOkW rfl | exact obOkW0 | exact obOkN | exact obOkS rfl | exact obOkNs | exact obOkS0 | trivial) (olk rfl (by first | exact obOk_cell | exact obOk_arr | exact obOkW rfl | exact obOkW0 | exact obOkN | exact obOkS rfl | exact obOkNs | exact obOkS0 | trivial) oln)) (hS_sub (a := wo w) rfl)) ?_ | refine awp_seq (awp_seq (awp_seq (awp_loop' (fun n_ s => ∃ (k : Nat), ∃ (hk : n_ + k = 4), s = mkSt 21 [(0, .box 0 (IsLens.whole WrldA)), (2, .v (a : Int)), (3, .v ((k : Int) + 1))] [(0, .cell (wA (brN x a k))), (1, .arr (brN x a k).nodes)]) (4) ⟨0, by omega, rfl⟩ (Le.mk rfl (tlb rfl rfl rfl (tle rfl (rfl) rfl (tle rfl (rfl) rfl tln))) (olk rfl (by first | exact obOk_cell | exact obOk_arr | exact obOkW rfl | exact obOkW0 | exact obOkN | exact obOkS rfl | exact obOkNs | exact obOkS0 | trivial) (olk rfl (by first | exact obOk_cell | exact obOk_arr | exact obOkW rfl | exact obOkW0 | exact obOkN | exact obOkS rfl | exact obOkNs | exact obOkS0 | trivial) oln)) (hS_sub (a := wo w) rfl)) ?_)))
      rintro n_ s ⟨k, hk, rfl⟩
      all_goals first | refine awp_seq (awp_region (id := 4) ?_) | refine awp_seq (awp_seq (awp_region (id := 4) ?_)) | refine awp_region (id := 4) ?_ | refine awp_seq (awp_seq (awp_seq (awp_region (id := 4) ?_)))
      all_goals first | refine awpOps_cons (op_mv rfl (Conv.of rfl) rfl) ?_ | refine awpOps_cons (op_mvl rfl rfl rfl rfl) ?_ | refine awpOps_cons (op_mvo rfl rfl rfl rfl) ?_
      all_goals refine awpOps_cons (op_leq rfl rfl rfl) ?_
      all_goals refine awpOps_nil ?_
      first | refine awp_seq (awp_cond rfl (fun h2 => ?_) (fun h2 => ?_)) | refine awp_seq (awp_seq (awp_cond rfl (fun h2 => ?_) (fun h2 => ?_))) | refine awp_cond rfl (fun h2 => ?_) (fun h2 => ?_) | refine awp_seq (awp_seq (awp_seq (awp_cond rfl (fun h2 => ?_) (fun h2 => ?_))))
      · have hk2 : k < 4 := by simp at h2; omega
        refine awp_skip ?_
        first | refine awp_seq (awp_block ?_) | refine awp_seq (awp_seq (awp_block ?_)) | refine awp_block ?_ | refine awp_seq (awp_seq (awp_seq (awp_block ?_)))
        all_goals first | refine awp_seq (awp_region (id := 6) ?_) | refine awp_seq (awp_seq (awp_region (id := 6) ?_)) | refine awp_region (id := 6) ?_ | refine awp_seq (awp_seq (awp_seq (awp_region (id := 6) ?_)))
        all_goals first | refine awpOps_cons (op_mv rfl (Conv.of rfl) rfl) ?_ | refine awpOps_cons (op_mvl rfl rfl rfl rfl) ?_ | refine awpOps_cons (op_mvo rfl rfl rfl rfl) ?_
        all_goals first | refine awpOps_cons (op_mv rfl (Conv.of rfl) rfl) ?_ | refine awpOps_cons (op_mvl rfl rfl rfl rfl) ?_ | refine awpOps_cons (op_mvo rfl rfl rfl rfl) ?_
        all_goals first | refine awpOps_cons (op_mv rfl (Conv.of rfl) rfl) ?_ | refine awpOps_cons (op_mvl rfl rfl rfl rfl) ?_ | refine awpOps_cons (op_mvo rfl rfl rfl rfl) ?_
        all_goals refine awpOps_cons (op_callO fb100 (.cons rfl (Conv.of rfl) (.cons rfl (Conv.of rfl) (.cons rfl (Conv.of rfl) (.nil _)))) (wbring_ct _ _ _ (brN_fine hx a k)) (olsk rfl (olsk rfl ols0)) (oksk (by first | exact obOk_cell | exact obOk_arr | exact obOkW rfl | exact obOkW0 | exact obOkN | exact obOkS rfl | exact obOkNs | exact obOkS0 | trivial) (oksk (by first | exact obOk_cell | exact obOk_arr | exact obOkW rfl | exact obOkW0 | exact obOkN | exact obOkS rfl | exact obOkNs | exact obOkS0 | trivial) oks0)) (oksk (by first | exact obOk_cell | exact obOk_arr | exact obOkW rfl | exact obOkW0 | exact obOkN | exact obOkS rfl | exact obOkNs | exact obOkS0 | trivial) (oksk (by first | exact obOk_cell | exact obOk_arr | exact obOkW rfl | exact obOkW0 | exact obOkN | exact obOkS rfl | exact obOkNs | exact obOkS0 | trivial) oks0)) rfl (argOb rfl rfl rfl (argOk' rfl rfl (argOk' rfl rfl argO0))) (fun o ho => by cases ho) rfl) ?_
        all_goals refine awpOps_nil ?_
        all_goals first | refine awp_seq (awp_region (id := 5) ?_) | refine awp_seq (awp_seq (awp_region (id := 5) ?_)) | refine awp_region (id := 5) ?_ | refine awp_seq (awp_seq (awp_seq (awp_region (id := 5) ?_)))
        all_goals first | refine awpOps_cons (op_mv rfl (Conv.of rfl) rfl) ?_ | refine awpOps_cons (op_mvl rfl rfl rfl rfl) ?_ | refine awpOps_cons (op_mvo rfl rfl rfl rfl) ?_
        all_goals refine awpOps_cons (op_add rfl rfl rfl (by omega)) ?_
        all_goals first | refine awpOps_cons (op_as rfl (Conv.of rfl) rfl) ?_ | refine awpOps_cons (op_asl rfl rfl rfl rfl) ?_ | refine awpOps_cons (op_aso rfl rfl rfl rfl) ?_
        all_goals refine awpOps_nil ?_
        repeat first | refine nx_seq ?_ | refine nx_block ?_
        exact ⟨n_ - 1, _, by omega, ⟨k + 1, by omega, rfl⟩, Le.mk rfl (tlb rfl rfl rfl (tle rfl (rfl) rfl (tle rfl (rfl) rfl tln))) (olk rfl (by first | exact obOk_cell | exact obOk_arr | exact obOkW rfl | exact obOkW0 | exact obOkN | exact obOkS rfl | exact obOkNs | exact obOkS0 | trivial) (olk rfl (by first | exact obOk_cell | exact obOk_arr | exact obOkW rfl | exact obOkW0 | exact obOkN | exact obOkS rfl | exact obOkNs | exact obOkS0 | trivial) oln)) (hS_sub (a := wo w) rfl)⟩
      · refine awp_exit ?_
        repeat refine ex_seq ?_
        refine ex_block ?_
        have hk4 : k = 4 := by simp at h2; omega
        subst hk4
        all_goals exact Le.mk rfl (tlb rfl rfl rfl (tle rfl (rfl) rfl tln)) (olk rfl (by first | exact obOk_cell | exact obOk_arr | exact obOkW rfl | exact obOkW0 | exact obOkN | exact obOkS rfl | exact obOkNs | exact obOkS0 | trivial) (olk rfl (by first | exact obOk_cell | exact obOk_arr | exact obOkW rfl | exact obOkW0 | exact obOkN | exact obOkS rfl | exact obOkNs | exact obOkS0 | trivial) oln)) (hS_sub (a := wo w) rfl)
    · all_goals first | refine awp_seq (awp_region (id := 2) ?_) | refine awp_seq (awp_seq (awp_region (id := 2) ?_)) | refine awp_region (id := 2) ?_ | refine awp_seq (awp_seq (awp_seq (awp_region (id := 2) ?_)))
      all_goals first | refine awpOps_cons (op_mv rfl (Conv.of rfl) rfl) ?_ | refine awpOps_cons (op_mvl rfl rfl rfl rfl) ?_ | refine awpOps_cons (op_mvo rfl rfl rfl rfl) ?_
      all_goals refine awpOps_cons (op_add rfl rfl rfl (by omega)) ?_
      all_goals first | refine awpOps_cons (op_as rfl (Conv.of rfl) rfl) ?_ | refine awpOps_cons (op_asl rfl rfl rfl rfl) ?_ | refine awpOps_cons (op_aso rfl rfl rfl rfl) ?_
      all_goals refine awpOps_nil ?_
      repeat first | refine nx_seq ?_ | refine nx_block ?_
      exact ⟨n_ - 1, _, by omega, ⟨a + 1, b4 x a, b4_fine hx a, (by rw [← he, show 100 - a = (100 - (a + 1)) + 1 by omega, sprF_go ha]), by omega, rfl⟩, Le.mk rfl (tlb rfl rfl rfl (tle rfl (rfl) rfl tln)) (olk rfl (by first | exact obOk_cell | exact obOk_arr | exact obOkW rfl | exact obOkW0 | exact obOkN | exact obOkS rfl | exact obOkNs | exact obOkS0 | trivial) (olk rfl (by first | exact obOk_cell | exact obOk_arr | exact obOkW rfl | exact obOkW0 | exact obOkN | exact obOkS rfl | exact obOkNs | exact obOkS0 | trivial) oln)) (hS_sub (a := wo w) rfl)⟩
  · refine awp_exit ?_
    repeat refine ex_seq ?_
    refine ex_block ?_
    have ha : ¬ a < x.log.length := by simpa using h
    rw [sprF_stop ha] at he
    subst he
    refine finO (wo (spreadF w)) .nil rfl (fun o ho => by cases ho) ?_ (hS_keys rfl) rfl
    exact (olk rfl (obOkW rfl) (olk rfl obOk_arr oln))
set_option maxHeartbeats 1000000 in
theorem calm_ct (w : Wrld) (p : Pay) (hw : Fine w) : CtO Tryz.prog 74 [.box 0 (IsLens.whole WrldA), .v p] (wo w) (.tup []) (wo (calmF w p)) := by
  have h1 := tick_fine hw
  have h2 := spread_fine h1
  have h3 := propose_fine h2 (leader (spreadF (tickF w)).epoch) p
  refine Ct.intro Tryz.func74 rfl rfl ?_
  all_goals first | refine awp_seq (awp_region (id := 0) ?_) | refine awp_seq (awp_seq (awp_region (id := 0) ?_)) | refine awp_region (id := 0) ?_ | refine awp_seq (awp_seq (awp_seq (awp_region (id := 0) ?_)))
  all_goals first | refine awpOps_cons (op_box (o := 2) ty46 rfl (Conv.of rfl) rfl rfl) ?_ | refine awpOps_cons (op_boxm (o := 2) ty46 rfl rfl rfl rfl) ?_
  all_goals refine awpOps_nil ?_
  all_goals first | refine awp_seq (awp_region (id := 1) ?_) | refine awp_seq (awp_seq (awp_region (id := 1) ?_)) | refine awp_region (id := 1) ?_ | refine awp_seq (awp_seq (awp_seq (awp_region (id := 1) ?_)))
  all_goals first | refine awpOps_cons (op_mv rfl (Conv.of rfl) rfl) ?_ | refine awpOps_cons (op_mvl rfl rfl rfl rfl) ?_ | refine awpOps_cons (op_mvo rfl rfl rfl rfl) ?_
  all_goals refine awpOps_cons (op_callO fb98 (.cons rfl (Conv.of rfl) (.nil _)) (tick_ct w hw) (olsk rfl (olsk rfl ols0)) (oksk (by first | exact obOk_cell | exact obOk_arr | exact obOkW rfl | exact obOkW0 | exact obOkN | exact obOkS rfl | exact obOkNs | exact obOkS0 | trivial) (oksk (by first | exact obOk_cell | exact obOk_arr | exact obOkW rfl | exact obOkW0 | exact obOkN | exact obOkS rfl | exact obOkNs | exact obOkS0 | trivial) oks0)) (oksk (by first | exact obOk_cell | exact obOk_arr | exact obOkW rfl | exact obOkW0 | exact obOkN | exact obOkS rfl | exact obOkNs | exact obOkS0 | trivial) (oksk (by first | exact obOk_cell | exact obOk_arr | exact obOkW rfl | exact obOkW0 | exact obOkN | exact obOkS rfl | exact obOkNs | exact obOkS0 | trivial) oks0)) rfl (argOb rfl rfl rfl argO0) (fun o ho => by cases ho) rfl) ?_
  all_goals refine awpOps_nil ?_
  all_goals first | refine awp_seq (awp_region (id := 2) ?_) | refine awp_seq (awp_seq (awp_region (id := 2) ?_)) | refine awp_region (id := 2) ?_ | refine awp_seq (awp_seq (awp_seq (awp_region (id := 2) ?_)))
  all_goals first | refine awpOps_cons (op_mv rfl (Conv.of rfl) rfl) ?_ | refine awpOps_cons (op_mvl rfl rfl rfl rfl) ?_ | refine awpOps_cons (op_mvo rfl rfl rfl rfl) ?_
  all_goals refine awpOps_cons (op_callO fb121 (.cons rfl (Conv.of rfl) (.nil _)) (spread_ct _ h1) (olsk rfl (olsk rfl ols0)) (oksk (by first | exact obOk_cell | exact obOk_arr | exact obOkW rfl | exact obOkW0 | exact obOkN | exact obOkS rfl | exact obOkNs | exact obOkS0 | trivial) (oksk (by first | exact obOk_cell | exact obOk_arr | exact obOkW rfl | exact obOkW0 | exact obOkN | exact obOkS rfl | exact obOkNs | exact obOkS0 | trivial) oks0)) (oksk (by first | exact obOk_cell | exact obOk_arr | exact obOkW rfl | exact obOkW0 | exact obOkN | exact obOkS rfl | exact obOkNs | exact obOkS0 | trivial) (oksk (by first | exact obOk_cell | exact obOk_arr | exact obOkW rfl | exact obOkW0 | exact obOkN | exact obOkS rfl | exact obOkNs | exact obOkS0 | trivial) oks0)) rfl (argOb rfl rfl rfl argO0) (fun o ho => by cases ho) rfl) ?_
  all_goals refine awpOps_nil ?_
  all_goals first | refine awp_seq (dr_start (id := 3) ?_) | refine awp_seq (awp_seq (dr_start (id := 3) ?_)) | refine dr_start (id := 3) ?_ | refine awp_seq (awp_seq (awp_seq (dr_start (id := 3) ?_)))
  all_goals first | refine dr_cons (op_mv rfl (Conv.of rfl) rfl) ?_ | refine dr_cons (op_mvl rfl rfl rfl rfl) ?_ | refine dr_cons (op_mvo rfl rfl rfl rfl) ?_
  all_goals first | refine dr_cons (op_mv rfl (Conv.of rfl) rfl) ?_ | refine dr_cons (op_mvl rfl rfl rfl rfl) ?_ | refine dr_cons (op_mvo rfl rfl rfl rfl) ?_
  all_goals first | refine dr_cons (op_nilc_box rfl rfl) ?_ | refine dr_cons (op_nilc_elm rfl rfl) ?_
  all_goals first | refine dr_cons (op_fab f29_0_WrldA rfl rfl) ?_ | refine dr_cons (op_far f29_0_WrldA rfl rfl) ?_ | refine dr_cons (op_fae f29_0_WrldA rfl rfl) ?_
  all_goals first | refine dr_cons (op_ld ty3 rfl rfl rfl) ?_ | refine dr_cons (op_ldr ty3 rfl rfl) ?_ | refine dr_cons (op_lde ty3 rfl rfl (by assumption) rfl) ?_ | refine dr_cons (op_ldl ty3 rfl rfl rfl) ?_ | refine dr_cons (op_ldd ty3 rfl rfl rfl) ?_ | refine dr_cons (op_ldde ty3 rfl rfl (by assumption) rfl) ?_
  all_goals refine dr_cons (op_call fb122 (.cons rfl (Conv.of rfl) (.nil _)) (leader_ct _) (argOk rfl rfl argOk0) rfl rfl) ?_
  all_goals first | refine dr_cons (op_ld ty46 rfl rfl rfl) ?_ | refine dr_cons (op_ldr ty46 rfl rfl) ?_ | refine dr_cons (op_lde ty46 rfl rfl (by assumption) rfl) ?_ | refine dr_cons (op_ldl ty46 rfl rfl rfl) ?_ | refine dr_cons (op_ldd ty46 rfl rfl rfl) ?_ | refine dr_cons (op_ldde ty46 rfl rfl (by assumption) rfl) ?_
  all_goals refine dr_cons (op_callO fb99 (.cons rfl (Conv.of rfl) (.cons rfl (Conv.of rfl) (.cons rfl (Conv.of rfl) (.nil _)))) (wpropose_ct _ _ _ h2) (olsk rfl (olsk rfl ols0)) (oksk (by first | exact obOk_cell | exact obOk_arr | exact obOkW rfl | exact obOkW0 | exact obOkN | exact obOkS rfl | exact obOkNs | exact obOkS0 | trivial) (oksk (by first | exact obOk_cell | exact obOk_arr | exact obOkW rfl | exact obOkW0 | exact obOkN | exact obOkS rfl | exact obOkNs | exact obOkS0 | trivial) oks0)) (oksk (by first | exact obOk_cell | exact obOk_arr | exact obOkW rfl | exact obOkW0 | exact obOkN | exact obOkS rfl | exact obOkNs | exact obOkS0 | trivial) (oksk (by first | exact obOk_cell | exact obOk_arr | exact obOkW rfl | exact obOkW0 | exact obOkN | exact obOkS rfl | exact obOkNs | exact obOkS0 | trivial) oks0)) rfl (argOb rfl rfl rfl (argOk' rfl rfl (argOk' rfl rfl argO0))) (fun o ho => by cases ho) rfl) ?_
  all_goals refine dr_nil mixed rfl ?_
  all_goals first | refine awp_seq (awp_region (id := 4) ?_) | refine awp_seq (awp_seq (awp_region (id := 4) ?_)) | refine awp_region (id := 4) ?_ | refine awp_seq (awp_seq (awp_seq (awp_region (id := 4) ?_)))
  all_goals first | refine awpOps_cons (op_mv rfl (Conv.of rfl) rfl) ?_ | refine awpOps_cons (op_mvl rfl rfl rfl rfl) ?_ | refine awpOps_cons (op_mvo rfl rfl rfl rfl) ?_
  all_goals refine awpOps_cons (op_callO fb121 (.cons rfl (Conv.of rfl) (.nil _)) (spread_ct _ h3) (olsk rfl (olsk rfl ols0)) (oksk (by first | exact obOk_cell | exact obOk_arr | exact obOkW rfl | exact obOkW0 | exact obOkN | exact obOkS rfl | exact obOkNs | exact obOkS0 | trivial) (oksk (by first | exact obOk_cell | exact obOk_arr | exact obOkW rfl | exact obOkW0 | exact obOkN | exact obOkS rfl | exact obOkNs | exact obOkS0 | trivial) oks0)) (oksk (by first | exact obOk_cell | exact obOk_arr | exact obOkW rfl | exact obOkW0 | exact obOkN | exact obOkS rfl | exact obOkNs | exact obOkS0 | trivial) (oksk (by first | exact obOk_cell | exact obOk_arr | exact obOkW rfl | exact obOkW0 | exact obOkN | exact obOkS rfl | exact obOkNs | exact obOkS0 | trivial) oks0)) rfl (argOb rfl rfl rfl argO0) (fun o ho => by cases ho) rfl) ?_
  all_goals refine awpOps_nil ?_
  refine finO (wo (calmF w p)) .nil rfl (fun o ho => by cases ho) ?_ (hS_keys rfl) rfl
  exact (olk rfl (obOkW rfl) (olk rfl obOk_arr oln))
theorem worldCalmBad_ct (w : Wrld) (pays : List Pay) (h : (worldOk w && decide (pays.length ≤ 30)) = false) : CtP Tryz.prog 35 [.v w, .v pays] (.v Wrld.zero) := by
  have hl : worldOk w = true → (30 : Int) < (pays.length : Int) := fun e => by
    rw [e] at h
    simp at h
    omega
  clear h
  refine Ct.intro Tryz.func35 rfl rfl ?_
  all_goals first | refine awp_seq (awp_region (id := 0) ?_) | refine awp_seq (awp_seq (awp_region (id := 0) ?_)) | refine awp_region (id := 0) ?_ | refine awp_seq (awp_seq (awp_seq (awp_region (id := 0) ?_)))
  all_goals first | refine awpOps_cons (op_box (o := 0) ty29 rfl (Conv.of rfl) rfl rfl) ?_ | refine awpOps_cons (op_boxm (o := 0) ty29 rfl rfl rfl rfl) ?_
  all_goals refine awpOps_cons (op_alloc (o := 1) z29 rfl rfl) ?_
  all_goals refine awpOps_nil ?_
  first | refine awp_seq (awp_seq (awp_seq (awp_seq_to (s' := mkSt 30 [(1, .v pays), (4, .box 1 (IsLens.whole Wrld)), (15, .v true)] [(1, .cell Wrld.zero)]) ?_ ?_))) | refine awp_seq (awp_seq (awp_seq_to (s' := mkSt 30 [(1, .v pays), (4, .box 1 (IsLens.whole Wrld)), (15, .v true)] [(1, .cell Wrld.zero)]) ?_ ?_)) | refine awp_seq (awp_seq_to (s' := mkSt 30 [(1, .v pays), (4, .box 1 (IsLens.whole Wrld)), (15, .v true)] [(1, .cell Wrld.zero)]) ?_ ?_) | refine awp_seq_to (s' := mkSt 30 [(1, .v pays), (4, .box 1 (IsLens.whole Wrld)), (15, .v true)] [(1, .cell Wrld.zero)]) ?_ ?_ | refine awp_toB (s' := mkSt 30 [(1, .v pays), (4, .box 1 (IsLens.whole Wrld)), (15, .v true)] [(1, .cell Wrld.zero)]) ?_ ?_ | refine awp_to (s' := mkSt 30 [(1, .v pays), (4, .box 1 (IsLens.whole Wrld)), (15, .v true)] [(1, .cell Wrld.zero)]) ?_ ?_
  · all_goals first | refine awp_seq (awp_region (id := 1) ?_) | refine awp_seq (awp_seq (awp_region (id := 1) ?_)) | refine awp_region (id := 1) ?_ | refine awp_seq (awp_seq (awp_seq (awp_region (id := 1) ?_)))
    all_goals first | refine awpOps_cons (op_ld ty29 rfl rfl rfl) ?_ | refine awpOps_cons (op_ldr ty29 rfl rfl) ?_ | refine awpOps_cons (op_lde ty29 rfl rfl (by assumption) rfl) ?_ | refine awpOps_cons (op_ldl ty29 rfl rfl rfl) ?_ | refine awpOps_cons (op_ldd ty29 rfl rfl rfl) ?_ | refine awpOps_cons (op_ldde ty29 rfl rfl (by assumption) rfl) ?_
    all_goals refine awpOps_cons (op_call fb19 (.cons rfl (Conv.of rfl) (.nil _)) (worldOk_ct _) (argOk rfl rfl argOk0) rfl rfl) ?_
    all_goals refine awpOps_cons (op_not rfl rfl) ?_
    all_goals first | refine awpOps_cons (op_mv rfl (Conv.of rfl) rfl) ?_ | refine awpOps_cons (op_mvl rfl rfl rfl rfl) ?_ | refine awpOps_cons (op_mvo rfl rfl rfl rfl) ?_
    all_goals first | refine g_lit (t := 11) (b := true) rfl ?_ | refine g_lit (t := 11) (b := false) rfl ?_ | refine g_ulit (t := 11) rfl ?_ | refine g_split (t := 11) rfl (fun h => ?_) (fun h => ?_)
    all_goals first | refine awpOps_cons (g_off rfl rfl rfl rfl rfl) ?_ | refine awpOps_cons (g_und rfl rfl rfl) ?_ | refine awpOps_cons (g_on rfl rfl rfl (op_mv rfl (Conv.of rfl) rfl)) ?_ | refine awpOps_cons (g_on rfl rfl rfl (op_mvl rfl rfl rfl rfl)) ?_ | refine awpOps_cons (g_on rfl rfl rfl (op_mvo rfl rfl rfl rfl)) ?_
    all_goals first | refine awpOps_cons (g_off rfl rfl rfl rfl rfl) ?_ | refine awpOps_cons (g_und rfl rfl rfl) ?_ | refine awpOps_cons (g_on rfl rfl rfl (op_len sl65 rfl rfl)) ?_ | refine awpOps_cons (g_on rfl rfl rfl (op_lenA sl65 rfl rfl rfl)) ?_
    all_goals first | refine awpOps_cons (g_off rfl rfl rfl rfl rfl) ?_ | refine awpOps_cons (g_und rfl rfl rfl) ?_ | refine awpOps_cons (g_on rfl rfl rfl (op_gtr rfl rfl rfl)) ?_
    all_goals refine awpOps_cons (op_pick rfl rfl rfl rfl) ?_
    all_goals refine awpOps_nil ?_
    all_goals exact Le.mk rfl (tle rfl (rfl) rfl (tlb rfl rfl rfl (tle rfl (by first | rfl | (show AV.v _ = AV.v _; simp_all; try omega)) rfl tln))) (olk rfl (by first | exact obOk_cell | exact obOk_arr | exact obOkW rfl | exact obOkW0 | exact obOkN | exact obOkS rfl | exact obOkNs | exact obOkS0 | trivial) oln) noS
  first | refine awp_seq (awp_cond rfl (fun h2 => ?_) (fun h2 => absurd h2 (by decide))) | refine awp_seq (awp_seq (awp_cond rfl (fun h2 => ?_) (fun h2 => absurd h2 (by decide)))) | refine awp_cond rfl (fun h2 => ?_) (fun h2 => absurd h2 (by decide)) | refine awp_seq (awp_seq (awp_seq (awp_cond rfl (fun h2 => ?_) (fun h2 => absurd h2 (by decide)))))
  all_goals first | refine awp_seq (awp_region (id := 2) ?_) | refine awp_seq (awp_seq (awp_region (id := 2) ?_)) | refine awp_region (id := 2) ?_ | refine awp_seq (awp_seq (awp_seq (awp_region (id := 2) ?_)))
  all_goals refine awpOps_cons (op_build (.nil _) z29 rfl pl29 rfl) ?_
  all_goals first | refine awpOps_cons (op_st ty29 rfl rfl (Conv.of rfl) rfl) ?_ | refine awpOps_cons (op_ste ty29 rfl rfl (Conv.of rfl) rfl (by assumption)) ?_ | refine awpOps_cons (op_stm ty29 rfl rfl rfl) ?_ | refine awpOps_cons (op_stme ty29 rfl rfl rfl (by assumption)) ?_
  all_goals refine awpOps_nil ?_
  refine awp_ret ?_
  repeat first | refine rt_seq ?_ | refine rt_block ?_
  exact finP (.rc ty29 rfl rfl) rfl rfl
theorem worldCalmA_ct (w : Wrld) (pays : List Pay) (h : worldOk w = true) (hp : pays.length ≤ 30) : Ct Tryz.prog 35 [.v w, .v pays] noObj (fun r1 h1 => r1 = .v (WrldA.mk (pays.foldl calmF w).epoch (.ref 2) (pays.foldl calmF w).log (pays.foldl calmF w).bad) ∧ h1 = obs [(2, .arr (pays.foldl calmF w).nodes)]) := by
  have hf := (worldOk_iff.1 h).fx.fine
  refine Ct.intro Tryz.func35 rfl rfl ?_
  all_goals first | refine awp_seq (awp_region (id := 0) ?_) | refine awp_seq (awp_seq (awp_region (id := 0) ?_)) | refine awp_region (id := 0) ?_ | refine awp_seq (awp_seq (awp_seq (awp_region (id := 0) ?_)))
  all_goals first | refine awpOps_cons (op_box (o := 5) ty29 rfl (Conv.of rfl) rfl rfl) ?_ | refine awpOps_cons (op_boxm (o := 5) ty29 rfl rfl rfl rfl) ?_
  all_goals refine awpOps_cons (op_alloc (o := 6) z29_WrldA rfl rfl) ?_
  all_goals refine awpOps_nil ?_
  first | refine awp_seq (awp_seq (awp_seq (awp_seq_to (s' := mkSt 30 [(1, .v pays), (2, .box 5 (IsLens.whole Wrld)), (4, .box 6 (IsLens.whole WrldA)), (15, .v false)] [(5, .cell w), (6, .cell WrldA.zero)]) ?_ ?_))) | refine awp_seq (awp_seq (awp_seq_to (s' := mkSt 30 [(1, .v pays), (2, .box 5 (IsLens.whole Wrld)), (4, .box 6 (IsLens.whole WrldA)), (15, .v false)] [(5, .cell w), (6, .cell WrldA.zero)]) ?_ ?_)) | refine awp_seq (awp_seq_to (s' := mkSt 30 [(1, .v pays), (2, .box 5 (IsLens.whole Wrld)), (4, .box 6 (IsLens.whole WrldA)), (15, .v false)] [(5, .cell w), (6, .cell WrldA.zero)]) ?_ ?_) | refine awp_seq_to (s' := mkSt 30 [(1, .v pays), (2, .box 5 (IsLens.whole Wrld)), (4, .box 6 (IsLens.whole WrldA)), (15, .v false)] [(5, .cell w), (6, .cell WrldA.zero)]) ?_ ?_ | refine awp_toB (s' := mkSt 30 [(1, .v pays), (2, .box 5 (IsLens.whole Wrld)), (4, .box 6 (IsLens.whole WrldA)), (15, .v false)] [(5, .cell w), (6, .cell WrldA.zero)]) ?_ ?_ | refine awp_to (s' := mkSt 30 [(1, .v pays), (2, .box 5 (IsLens.whole Wrld)), (4, .box 6 (IsLens.whole WrldA)), (15, .v false)] [(5, .cell w), (6, .cell WrldA.zero)]) ?_ ?_
  · all_goals first | refine awp_seq (awp_region (id := 1) ?_) | refine awp_seq (awp_seq (awp_region (id := 1) ?_)) | refine awp_region (id := 1) ?_ | refine awp_seq (awp_seq (awp_seq (awp_region (id := 1) ?_)))
    all_goals first | refine awpOps_cons (op_ld ty29_Wrld rfl rfl rfl) ?_ | refine awpOps_cons (op_ldr ty29_Wrld rfl rfl) ?_ | refine awpOps_cons (op_lde ty29_Wrld rfl rfl (by assumption) rfl) ?_ | refine awpOps_cons (op_ldl ty29_Wrld rfl rfl rfl) ?_ | refine awpOps_cons (op_ldd ty29_Wrld rfl rfl rfl) ?_ | refine awpOps_cons (op_ldde ty29_Wrld rfl rfl (by assumption) rfl) ?_
    all_goals refine awpOps_cons (op_call fb19 (.cons rfl (Conv.of rfl) (.nil _)) (worldOk_ct _) (argOk rfl rfl argOk0) rfl rfl) ?_
    all_goals refine awpOps_cons (op_not rfl rfl) ?_
    all_goals first | refine awpOps_cons (op_mv rfl (Conv.of rfl) rfl) ?_ | refine awpOps_cons (op_mvl rfl rfl rfl rfl) ?_ | refine awpOps_cons (op_mvo rfl rfl rfl rfl) ?_
    all_goals first | refine g_lit (t := 11) (b := true) rfl ?_ | refine g_lit (t := 11) (b := false) rfl ?_ | refine g_ulit (t := 11) rfl ?_ | refine g_split (t := 11) rfl (fun h => ?_) (fun h => ?_)
    all_goals first | refine awpOps_cons (g_off rfl rfl rfl rfl rfl) ?_ | refine awpOps_cons (g_und rfl rfl rfl) ?_ | refine awpOps_cons (g_on rfl rfl rfl (op_mv rfl (Conv.of rfl) rfl)) ?_ | refine awpOps_cons (g_on rfl rfl rfl (op_mvl rfl rfl rfl rfl)) ?_ | refine awpOps_cons (g_on rfl rfl rfl (op_mvo rfl rfl rfl rfl)) ?_
    all_goals first | refine awpOps_cons (g_off rfl rfl rfl rfl rfl) ?_ | refine awpOps_cons (g_und rfl rfl rfl) ?_ | refine awpOps_cons (g_on rfl rfl rfl (op_len sl65 rfl rfl)) ?_ | refine awpOps_cons (g_on rfl rfl rfl (op_lenA sl65 rfl rfl rfl)) ?_
    all_goals first | refine awpOps_cons (g_off rfl rfl rfl rfl rfl) ?_ | refine awpOps_cons (g_und rfl rfl rfl) ?_ | refine awpOps_cons (g_on rfl rfl rfl (op_gtr rfl rfl rfl)) ?_
    all_goals refine awpOps_cons (op_pick rfl rfl rfl rfl) ?_
    all_goals refine awpOps_nil ?_
    all_goals exact Le.mk rfl (tle rfl (rfl) rfl (tlb rfl rfl rfl (tlb rfl rfl rfl (tle rfl (by first | rfl | (show AV.v _ = AV.v _; simp_all; try omega)) rfl tln)))) (olk rfl (by first | exact obOk_cell | exact obOk_arr | exact obOkW rfl | exact obOkW0 | exact obOkN | exact obOkS rfl | exact obOkNs | exact obOkS0 | trivial) (olk rfl (by first | exact obOk_cell | exact obOk_arr | exact obOkW rfl | exact obOkW0 | exact obOkN | exact obOkS rfl | exact obOkNs | exact obOkS0 | trivial) oln)) noS
  first | refine awp_seq (awp_cond rfl (fun h2 => absurd h2 (by decide)) (fun h2 => ?_)) | refine awp_seq (awp_seq (awp_cond rfl (fun h2 => absurd h2 (by decide)) (fun h2 => ?_))) | refine awp_cond rfl (fun h2 => absurd h2 (by decide)) (fun h2 => ?_) | refine awp_seq (awp_seq (awp_seq (awp_cond rfl (fun h2 => absurd h2 (by decide)) (fun h2 => ?_))))
  refine awp_skip ?_
  all_goals first | refine awp_seq (awp_region (id := 3) ?_) | refine awp_seq (awp_seq (awp_region (id := 3) ?_)) | refine awp_region (id := 3) ?_ | refine awp_seq (awp_seq (awp_seq (awp_region (id := 3) ?_)))
  all_goals first | refine awpOps_cons (op_ld ty29_Wrld rfl rfl rfl) ?_ | refine awpOps_cons (op_ldr ty29_Wrld rfl rfl) ?_ | refine awpOps_cons (op_lde ty29_Wrld rfl rfl (by assumption) rfl) ?_ | refine awpOps_cons (op_ldl ty29_Wrld rfl rfl rfl) ?_ | refine awpOps_cons (op_ldd ty29_Wrld rfl rfl rfl) ?_ | refine awpOps_cons (op_ldde ty29_Wrld rfl rfl (by assumption) rfl) ?_
  refine awpOps_callO [] rfl fb49 (.cons rfl (Conv.of rfl) (.nil _)) (copiedP_w w hf) ols0 oks0 (argOk' rfl rfl argO0) rfl ?_
  rintro r h' ⟨rfl, rfl⟩
  refine ⟨[(1, .arr w.nodes)], rfl, (fun o ho => by cases ho), fun o ho _ => ?_, oksk obOk_arr oks0, fun o ho => ?_, ?_⟩
  · have : o = 1 := by simpa [keys, lk0] using ho
    subst this; rfl
  · have : o = 1 := by simpa using (show o ∈ [1] from ho)
    subst this; rfl
  all_goals refine awpOps_cons (op_alloc (o := 0) z29_WrldA rfl rfl) ?_
  all_goals first | refine awpOps_cons (op_st ty29_WrldA rfl rfl (Conv.of rfl) rfl) ?_ | refine awpOps_cons (op_ste ty29_WrldA rfl rfl (Conv.of rfl) rfl (by assumption)) ?_ | refine awpOps_cons (op_stm ty29_WrldA rfl rfl rfl) ?_ | refine awpOps_cons (op_stme ty29_WrldA rfl rfl rfl (by assumption)) ?_
  all_goals refine awpOps_nil ?_
  all_goals first | refine awp_seq (awp_region (id := 4) ?_) | refine awp_seq (awp_seq (awp_region (id := 4) ?_)) | refine awp_region (id := 4) ?_ | refine awp_seq (awp_seq (awp_seq (awp_region (id := 4) ?_)))
  all_goals first | refine awpOps_cons (op_mv rfl (Conv.of rfl) rfl) ?_ | refine awpOps_cons (op_mvl rfl rfl rfl rfl) ?_ | refine awpOps_cons (op_mvo rfl rfl rfl rfl) ?_
  all_goals first | refine awpOps_cons (op_len sl65 rfl rfl) ?_ | refine awpOps_cons (op_lenA sl65 rfl rfl rfl) ?_
  all_goals refine awpOps_cons (op_mv rfl (Conv.of rfl) rfl) ?_
  all_goals refine awpOps_nil ?_
  first | refine awp_seq (awp_block ?_) | refine awp_seq (awp_seq (awp_block ?_)) | refine awp_block ?_ | refine awp_seq (awp_seq (awp_seq (awp_block ?_)))
  first | refine awp_seq (awp_loop' (fun n s => ∃ (k : Nat), ∃ (hn : n + k = pays.length), s = mkSt 30 [(4, .box 6 (IsLens.whole WrldA)), (5, .box 0 (IsLens.whole WrldA)), (19, .v pays), (20, .v (pays.length : Int)), (21, .v (k : Int))] [(0, .cell (wA ((pays.take k).foldl calmF w))), (1, .arr ((pays.take k).foldl calmF w).nodes), (6, .cell WrldA.zero)]) (pays.length) ⟨0, by omega, rfl⟩ (Le.mk rfl (tlb rfl rfl rfl (tlb rfl rfl rfl (tle rfl (rfl) rfl (tle rfl (rfl) rfl (tle rfl (rfl) rfl tln))))) (olk (by first | rfl | (rw [foldl_at calmF _ hx]; rfl)) (by first | exact obOk_cell | exact obOk_arr | exact obOkW rfl | exact obOkW0 | exact obOkN | exact obOkS rfl | exact obOkNs | exact obOkS0 | trivial) (olk (by first | rfl | (rw [foldl_at calmF _ hx]; rfl)) (by first | exact obOk_cell | exact obOk_arr | exact obOkW rfl | exact obOkW0 | exact obOkN | exact obOkS rfl | exact obOkNs | exact obOkS0 | trivial) (olk rfl (by first | exact obOk_cell | exact obOk_arr | exact obOkW rfl | exact obOkW0 | exact obOkN | exact obOkS rfl | exact obOkNs | exact obOkS0 | trivial) oln))) noS) ?_) | refine awp_seq (awp_seq (awp_loop' (fun n s => ∃ (k : Nat), ∃ (hn : n + k = pays.length), s = mkSt 30 [(4, .box 6 (IsLens.whole WrldA)), (5, .box 0 (IsLens.whole WrldA)), (19, .v pays), (20, .v (pays.length : Int)), (21, .v (k : Int))] [(0, .cell (wA ((pays.take k).foldl calmF w))), (1, .arr ((pays.take k).foldl calmF w).nodes), (6, .cell WrldA.zero)]) (pays.length) ⟨0, by omega, rfl⟩ (Le.mk rfl (tlb rfl rfl rfl (tlb rfl rfl rfl (tle rfl (rfl) rfl (tle rfl (rfl) rfl (tle rfl (rfl) rfl tln))))) (olk (by first | rfl | (rw [foldl_at calmF _ hx]; rfl)) (by first | exact obOk_cell | exact obOk_arr | exact obOkW rfl | exact obOkW0 | exact obOkN | exact obOkS rfl | exact obOkNs | exact obOkS0 | trivial) (olk (by first | rfl | (rw [foldl_at calmF _ hx]; rfl)) (by first | exact obOk_cell | exact obOk_arr | exact obOkW rfl | exact obOkW0 | exact obOkN | exact obOkS rfl | exact obOkNs | exact obOkS0 | trivial) (olk rfl (by first | exact obOk_cell | exact obOk_arr | exact obOkW rfl | exact obOkW0 | exact obOkN | exact obOkS rfl | exact obOkNs | exact obOkS0 | trivial) oln))) noS) ?_)) | refine awp_loop' (fun n s => ∃ (k : Nat), ∃ (hn : n + k = pays.length), s = mkSt 30 [(4, .box 6 (IsLens.whole WrldA)), (5, .box 0 (IsLens.whole WrldA)), (19, .v pays), (20, .v (pays.length : Int)), (21, .v (k : Int))] [(0, .cell (wA ((pays.take k).foldl calmF w))), (1, .arr ((pays.take k).foldl calmF w).nodes), (6, .cell WrldA.zero)]) (pays.length) ⟨0, by omega, rfl⟩ (Le.mk rfl (tlb rfl rfl rfl (tlb rfl rfl rfl (tle rfl (rfl) rfl (tle rfl (rfl) rfl (tle rfl (rfl) rfl tln))))) (olk (by first | rfl | (rw [foldl_at calmF _ hx]; rfl)) (by first | exact obOk_cell | exact obOk_arr | exact obOkW rfl | exact obOkW0 | exact obOkN | exact obOkS rfl | exact obOkNs | exact obOkS0 | trivial) (olk (by first | rfl | (rw [foldl_at calmF _ hx]; rfl)) (by first | exact obOk_cell | exact obOk_arr | exact obOkW rfl | exact obOkW0 | exact obOkN | exact obOkS rfl | exact obOkNs | exact obOkS0 | trivial) (olk rfl (by first | exact obOk_cell | exact obOk_arr | exact obOkW rfl | exact obOkW0 | exact obOkN | exact obOkS rfl | exact obOkNs | exact obOkS0 | trivial) oln))) noS) ?_ | refine awp_seq (awp_seq (awp_seq (awp_loop' (fun n s => ∃ (k : Nat), ∃ (hn : n + k = pays.length), s = mkSt 30 [(4, .box 6 (IsLens.whole WrldA)), (5, .box 0 (IsLens.whole WrldA)), (19, .v pays), (20, .v (pays.length : Int)), (21, .v (k : Int))] [(0, .cell (wA ((pays.take k).foldl calmF w))), (1, .arr ((pays.take k).foldl calmF w).nodes), (6, .cell WrldA.zero)]) (pays.length) ⟨0, by omega, rfl⟩ (Le.mk rfl (tlb rfl rfl rfl (tlb rfl rfl rfl (tle rfl (rfl) rfl (tle rfl (rfl) rfl (tle rfl (rfl) rfl tln))))) (olk (by first | rfl | (rw [foldl_at calmF _ hx]; rfl)) (by first | exact obOk_cell | exact obOk_arr | exact obOkW rfl | exact obOkW0 | exact obOkN | exact obOkS rfl | exact obOkNs | exact obOkS0 | trivial) (olk (by first | rfl | (rw [foldl_at calmF _ hx]; rfl)) (by first | exact obOk_cell | exact obOk_arr | exact obOkW rfl | exact obOkW0 | exact obOkN | exact obOkS rfl | exact obOkNs | exact obOkS0 | trivial) (olk rfl (by first | exact obOk_cell | exact obOk_arr | exact obOkW rfl | exact obOkW0 | exact obOkN | exact obOkS rfl | exact obOkNs | exact obOkS0 | trivial) oln))) noS) ?_)))
  rintro n s ⟨k, hn, rfl⟩
  have hfine : Fine ((pays.take k).foldl calmF w) := calmFold_fine _ hf
  all_goals first | refine awp_seq (awp_region (id := 5) ?_) | refine awp_seq (awp_seq (awp_region (id := 5) ?_)) | refine awp_region (id := 5) ?_ | refine awp_seq (awp_seq (awp_seq (awp_region (id := 5) ?_)))
  all_goals refine awpOps_cons (op_lss rfl rfl rfl) ?_
  all_goals refine awpOps_nil ?_
  first | refine awp_seq (awp_cond rfl (fun h => ?_) (fun h => ?_)) | refine awp_seq (awp_seq (awp_cond rfl (fun h => ?_) (fun h => ?_))) | refine awp_cond rfl (fun h => ?_) (fun h => ?_) | refine awp_seq (awp_seq (awp_seq (awp_cond rfl (fun h => ?_) (fun h => ?_))))
  · have hlt : k < pays.length := by simpa using h
    have hx : pays[k]? = some pays[k] := List.getElem?_eq_getElem hlt
    refine awp_skip ?_
    first | refine awp_seq (awp_block ?_) | refine awp_seq (awp_seq (awp_block ?_)) | refine awp_block ?_ | refine awp_seq (awp_seq (awp_seq (awp_block ?_)))
    all_goals first | refine awp_seq (awp_region (id := 6) ?_) | refine awp_seq (awp_seq (awp_region (id := 6) ?_)) | refine awp_region (id := 6) ?_ | refine awp_seq (awp_seq (awp_seq (awp_region (id := 6) ?_)))
    all_goals first | refine awpOps_cons (op_ix sl65 rfl rfl rfl (by omega) hx) ?_ | refine awpOps_cons (op_ixA sl65 rfl rfl rfl rfl (by omega)) ?_
    all_goals first | refine awpOps_cons (op_ld ty46 rfl rfl rfl) ?_ | refine awpOps_cons (op_ldr ty46 rfl rfl) ?_ | refine awpOps_cons (op_lde ty46 rfl rfl (by assumption) rfl) ?_ | refine awpOps_cons (op_ldl ty46 rfl rfl rfl) ?_ | refine awpOps_cons (op_ldd ty46 rfl rfl rfl) ?_ | refine awpOps_cons (op_ldde ty46 rfl rfl (by assumption) rfl) ?_
    all_goals refine awpOps_cons (op_alloc (o := 7) z46 rfl rfl) ?_
    all_goals first | refine awpOps_cons (op_st ty46 rfl rfl (Conv.of rfl) rfl) ?_ | refine awpOps_cons (op_ste ty46 rfl rfl (Conv.of rfl) rfl (by assumption)) ?_ | refine awpOps_cons (op_stm ty46 rfl rfl rfl) ?_ | refine awpOps_cons (op_stme ty46 rfl rfl rfl (by assumption)) ?_
    all_goals refine awpOps_nil ?_
    all_goals first | refine awp_seq (awp_region (id := 7) ?_) | refine awp_seq (awp_seq (awp_region (id := 7) ?_)) | refine awp_region (id := 7) ?_ | refine awp_seq (awp_seq (awp_seq (awp_region (id := 7) ?_)))
    all_goals first | refine awpOps_cons (op_ld ty46 rfl rfl rfl) ?_ | refine awpOps_cons (op_ldr ty46 rfl rfl) ?_ | refine awpOps_cons (op_lde ty46 rfl rfl (by assumption) rfl) ?_ | refine awpOps_cons (op_ldl ty46 rfl rfl rfl) ?_ | refine awpOps_cons (op_ldd ty46 rfl rfl rfl) ?_ | refine awpOps_cons (op_ldde ty46 rfl rfl (by assumption) rfl) ?_
    all_goals refine awpOps_cons (op_callO fb74 (.cons rfl (Conv.of rfl) (.cons rfl (Conv.of rfl) (.nil _))) (calm_ct _ pays[k] hfine) (olsk rfl (olsk rfl ols0)) (oksk (by first | exact obOk_cell | exact obOk_arr | exact obOkW rfl | exact obOkW0 | exact obOkN | exact obOkS rfl | exact obOkNs | exact obOkS0 | trivial) (oksk (by first | exact obOk_cell | exact obOk_arr | exact obOkW rfl | exact obOkW0 | exact obOkN | exact obOkS rfl | exact obOkNs | exact obOkS0 | trivial) oks0)) (oksk (by first | exact obOk_cell | exact obOk_arr | exact obOkW rfl | exact obOkW0 | exact obOkN | exact obOkS rfl | exact obOkNs | exact obOkS0 | trivial) (oksk (by first | exact obOk_cell | exact obOk_arr | exact obOkW rfl | exact obOkW0 | exact obOkN | exact obOkS rfl | exact obOkNs | exact obOkS0 | trivial) oks0)) rfl (argOb rfl rfl rfl (argOk' rfl rfl argO0)) (fun o ho => by cases ho) rfl) ?_
    all_goals refine awpOps_nil ?_
    all_goals first | refine awp_seq (awp_region (id := 8) ?_) | refine awp_seq (awp_seq (awp_region (id := 8) ?_)) | refine awp_region (id := 8) ?_ | refine awp_seq (awp_seq (awp_seq (awp_region (id := 8) ?_)))
    all_goals refine awpOps_cons (op_add rfl rfl rfl (by omega)) ?_
    all_goals first | refine awpOps_cons (op_mv rfl (Conv.of rfl) rfl) ?_ | refine awpOps_cons (op_mvl rfl rfl rfl rfl) ?_ | refine awpOps_cons (op_mvo rfl rfl rfl rfl) ?_
    all_goals refine awpOps_nil ?_
    repeat first | refine nx_seq ?_ | refine nx_block ?_
    exact ⟨n - 1, _, by omega, ⟨k + 1, by omega, rfl⟩, Le.mk rfl (tlb rfl rfl rfl (tlb rfl rfl rfl (tle rfl (rfl) rfl (tle rfl (rfl) rfl (tle rfl (rfl) rfl tln))))) (olk (by first | rfl | (rw [foldl_at calmF _ hx]; rfl)) (by first | exact obOk_cell | exact obOk_arr | exact obOkW rfl | exact obOkW0 | exact obOkN | exact obOkS rfl | exact obOkNs | exact obOkS0 | trivial) (olk (by first | rfl | (rw [foldl_at calmF _ hx]; rfl)) (by first | exact obOk_cell | exact obOk_arr | exact obOkW rfl | exact obOkW0 | exact obOkN | exact obOkS rfl | exact obOkNs | exact obOkS0 | trivial) (olk rfl (by first | exact obOk_cell | exact obOk_arr | exact obOkW rfl | exact obOkW0 | exact obOkN | exact obOkS rfl | exact obOkNs | exact obOkS0 | trivial) oln))) noS⟩
  · refine awp_exit ?_
    repeat refine ex_seq ?_
    refine ex_block ?_
    have hk : pays.length ≤ k := by simpa using h
    have hp2 : (pays.take k).foldl calmF w = pays.foldl calmF w := by rw [take_end hk]
    rw [hp2] at hfine ⊢
    all_goals first | refine awp_seq (awp_region (id := 9) ?_) | refine awp_seq (awp_seq (awp_region (id := 9) ?_)) | refine awp_region (id := 9) ?_ | refine awp_seq (awp_seq (awp_seq (awp_region (id := 9) ?_)))
    all_goals first | refine awpOps_cons (op_ld ty29_WrldA rfl rfl rfl) ?_ | refine awpOps_cons (op_ldr ty29_WrldA rfl rfl) ?_ | refine awpOps_cons (op_lde ty29_WrldA rfl rfl (by assumption) rfl) ?_ | refine awpOps_cons (op_ldl ty29_WrldA rfl rfl rfl) ?_ | refine awpOps_cons (op_ldd ty29_WrldA rfl rfl rfl) ?_ | refine awpOps_cons (op_ldde ty29_WrldA rfl rfl (by assumption) rfl) ?_
    refine awpOps_callO [(1, .arr (pays.foldl calmF w).nodes)] rfl fb49 (.cons rfl (Conv.of rfl) (.nil _)) (copiedA_w _ hfine) (olsk rfl ols0) (oksk obOk_arr oks0) (argOb rfl rfl rfl argO0) rfl ?_
    rintro r h' ⟨rfl, rfl⟩
    refine ⟨[(1, .arr (pays.foldl calmF w).nodes), (2, .arr (pays.foldl calmF w).nodes)], rfl, fun o ho => ?_, fun o ho h1 => ?_, oksk obOk_arr (oksk obOk_arr oks0), fun o ho => ?_, ?_⟩
    · have : o = 1 := by simpa [keys, lk0] using ho
      subst this; rfl
    · by_cases e : o = 1
      · subst e; cases h1
      · have : o = 2 := by simpa [keys, lk0, e] using ho
        subst this; rfl
    · have : o = 2 := by simpa using (show o ∈ [2] from ho)
      subst this; rfl
    all_goals first | refine awpOps_cons (op_st ty29_WrldA rfl rfl (Conv.of rfl) rfl) ?_ | refine awpOps_cons (op_ste ty29_WrldA rfl rfl (Conv.of rfl) rfl (by assumption)) ?_ | refine awpOps_cons (op_stm ty29_WrldA rfl rfl rfl) ?_ | refine awpOps_cons (op_stme ty29_WrldA rfl rfl rfl (by assumption)) ?_
    all_goals refine awpOps_nil ?_
    refine awp_ret ?_
    repeat first | refine rt_seq ?_ | refine rt_block ?_
    refine ⟨_, _, res1 (ol := [(2, .arr (pays.foldl calmF w).nodes)]) (.rc ty29_WrldA rfl rfl) (fun o ho => ?_) (olk rfl obOk_arr oln) noS, rfl, rfl⟩
    have : o = 2 := by simpa using (show o ∈ [2] from ho)
    subst this; rfl
theorem worldCalm_ct (w : Wrld) (pays : List Pay) : CtP Tryz.prog 35 [.v w, .v pays] (.v (worldCalmR w pays)) := by
  unfold worldCalmR
  cases h : worldOk w && decide (pays.length ≤ 30) with
  | false => exact worldCalmBad_ct w pays h
  | true =>
    simp only [Bool.and_eq_true, decide_eq_true_eq] at h
    exact Ct.frz (worldCalmA_ct w pays h.1 h.2) (frz_one (big4 (calmFold_fine _ (worldOk_iff.1 h.1).fx.fine).four))
end Go.Proofs.YtompnmkpgffhkaaGreat
