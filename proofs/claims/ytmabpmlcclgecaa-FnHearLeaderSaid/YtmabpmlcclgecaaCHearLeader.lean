/- The law FnHearLeader returns true at every input, and leaves its arguments as they were. No condition. -/
import Derived.Test.YtmabpmlcclgecaaM5
import Derived.Test.YtmabpmlcclgecaaRows
import Derived.WalkKit
import Derived.ProofKit
import Derived.OpenShut
import Derived.ShutString
import Derived.ChangeOld
import Derived.Below
import Derived.SizedLaws
import Derived.KernelRfl
/- A law: what the leader proposes behind the longest is voted for. -/
set_option linter.unusedVariables false
set_option linter.unusedSimpArgs false
namespace Go.Proofs.Ytmabpmlcclgecaa
open Go Go.Wt
set_option maxHeartbeats 4000000 in
theorem FnHearLeader_ct (code : List UInt8) : CtP Try.prog 5 [.v code] (.v true) := by
  refine Ct.intro Try.func5 rfl rfl ?_
  all_goals refine awp_seq (awp_region (id := 0) ?_)
  all_goals refine awpOps_cons (op_as rfl (Conv.of rfl) rfl) ?_
  all_goals refine awpOps_nil ?_
  all_goals refine awp_seq (awp_seq (awp_region (id := 1) ?_))
  all_goals refine awpOps_cons (op_mv rfl (Conv.of rfl) rfl) ?_
  all_goals refine awpOps_cons (op_len sl22 rfl rfl) ?_
  all_goals refine awpOps_cons (op_gtr rfl rfl rfl) ?_
  all_goals refine awpOps_nil ?_
  refine awp_cond rfl (fun h => ?_) (fun h => ?_)
  · all_goals refine awp_seq (awp_region (id := 2) ?_)
    all_goals refine awpOps_cons (op_as rfl (Conv.of rfl) rfl) ?_
    all_goals refine awpOps_nil ?_
    refine awp_ret ?_
    repeat first | refine rt_seq ?_ | refine rt_block ?_
    exact finP (.v rfl (Conv.of rfl)) rfl rfl
  refine awp_skip ?_
  all_goals refine awp_seq (awp_region (id := 3) ?_)
  all_goals refine awpOps_cons (op_mv rfl (Conv.of rfl) rfl) ?_
  refine awpOps_callE (ι := Nod × Vote) [] (fun i => .tup [.v i.1, .v i.2]) (fun _ => []) (fun i => Ln i.1 ∧ i.2.chain.length ≤ 1000) rfl fb8 (.cons rfl (Conv.of rfl) (.nil _)) (drawNodeHear_ct code) (fun r h' ⟨n, v, e1, e2, e3, e4⟩ => ⟨(n, v), e1, e2, e3, e4⟩) ols0 oks0 (argOk' rfl rfl argO0) rfl (fun _ => rfl) (fun _ => oks0) (fun _ o ho => by cases ho) ?_
  rintro ⟨n, v⟩ ⟨hn, hv⟩
  simp only at hn hv ⊢
  all_goals refine awpOps_cons (op_mv rfl (Conv.of rfl) rfl) ?_
  all_goals refine awpOps_cons (op_ext rfl rfl rfl) ?_
  all_goals refine awpOps_cons (op_ext rfl rfl rfl) ?_
  all_goals refine awpOps_cons (op_alloc (o := 0) z25 rfl rfl) ?_
  all_goals refine awpOps_cons (op_alloc (o := 1) z28 rfl rfl) ?_
  all_goals refine awpOps_cons (op_st ty25 rfl rfl (Conv.of rfl) rfl) ?_
  all_goals refine awpOps_cons (op_st ty28 rfl rfl (Conv.of rfl) rfl) ?_
  all_goals refine awpOps_nil ?_
  all_goals refine awp_seq (awp_region (id := 4) ?_)
  all_goals refine awpOps_cons (op_ld ty25 rfl rfl rfl) ?_
  all_goals refine awpOps_cons (op_ld ty28 rfl rfl rfl) ?_
  all_goals refine awpOps_cons (op_call fb9 (.cons rfl (Conv.of rfl) (.cons rfl (Conv.of rfl) (.nil _))) (sNodeHear_ct n v (by omega)) (argOk rfl rfl (argOk rfl rfl argOk0)) rfl rfl) ?_
  all_goals refine awpOps_cons (op_mv rfl (Conv.of rfl) rfl) ?_
  all_goals refine awpOps_cons (op_ext rfl rfl rfl) ?_
  all_goals refine awpOps_cons (op_ext rfl rfl rfl) ?_
  all_goals refine awpOps_cons (op_ext rfl rfl rfl) ?_
  all_goals refine awpOps_cons (op_alloc (o := 2) z25 rfl rfl) ?_
  all_goals refine awpOps_cons (op_alloc (o := 3) z28 rfl rfl) ?_
  all_goals refine awpOps_cons (op_st ty25 rfl rfl (Conv.of rfl) rfl) ?_
  all_goals refine awpOps_cons (op_st ty28 rfl rfl (Conv.of rfl) rfl) ?_
  all_goals refine awpOps_cons (op_as rfl (Conv.of rfl) rfl) ?_
  all_goals refine awpOps_nil ?_
  all_goals refine awp_seq (awp_region (id := 5) ?_)
  all_goals refine awpOps_cons (op_ld ty25 rfl rfl rfl) ?_
  all_goals refine awpOps_cons (op_ld ty28 rfl rfl rfl) ?_
  all_goals refine awpOps_cons (op_call fb10 (.cons rfl (Conv.of rfl) (.cons rfl (Conv.of rfl) (.nil _))) (nodeHear_ct n v) (argOk rfl rfl (argOk rfl rfl argOk0)) rfl rfl) ?_
  all_goals refine awpOps_cons (op_mv rfl (Conv.of rfl) rfl) ?_
  all_goals refine awpOps_cons (op_ext rfl rfl rfl) ?_
  all_goals refine awpOps_cons (op_ext rfl rfl rfl) ?_
  all_goals refine awpOps_cons (op_ext rfl rfl rfl) ?_
  all_goals refine awpOps_cons (op_alloc (o := 4) z25 rfl rfl) ?_
  all_goals refine awpOps_cons (op_alloc (o := 6) z28 rfl rfl) ?_
  all_goals refine awpOps_cons (op_st ty25 rfl rfl (Conv.of rfl) rfl) ?_
  all_goals refine awpOps_cons (op_st ty28 rfl rfl (Conv.of rfl) rfl) ?_
  all_goals refine awpOps_cons (op_as rfl (Conv.of rfl) rfl) ?_
  all_goals refine awpOps_nil ?_
  have hsl := hn.sl
  refine awp_seq (awp_seq_to (s' := mkSt 167 [(3, .box 0 (IsLens.whole Nod)), (4, .box 1 (IsLens.whole Vote)), (5, .box 2 (IsLens.whole Nod)), (6, .box 3 (IsLens.whole Vote)), (7, .v (nodeHearR n v).2.2), (8, .box 4 (IsLens.whole Nod)), (9, .box 6 (IsLens.whole Vote)), (10, .v (nodeHearR n v).2.2), (71, .v (!nodeOk n || decide (n.epoch = 30) || decide ((n.seen.length : Int) + 2 > 80)))] [(0, .cell n), (1, .cell v), (2, .cell (nodeHearR n v).1), (3, .cell (nodeHearR n v).2.1), (4, .cell (nodeHearR n v).1), (6, .cell (nodeHearR n v).2.1)]) ?_ ?_)
  · all_goals refine awp_region (id := 6) ?_
    all_goals refine awpOps_cons (op_mv rfl (Conv.of rfl) rfl) ?_
    all_goals refine awpOps_cons (op_mv rfl (Conv.of rfl) rfl) ?_
    all_goals refine awpOps_cons (op_bneq ub4 rfl rfl rfl) ?_
    all_goals refine awpOps_cons (op_mv rfl (Conv.of rfl) rfl) ?_
    all_goals refine g_split (t := 43) rfl (fun h => ?_) (fun h => ?_)
    all_goals first | refine awpOps_cons (g_off rfl rfl rfl rfl rfl) ?_ | refine awpOps_cons (g_on rfl rfl rfl (op_ld ty25 rfl rfl rfl)) ?_
    all_goals first | refine awpOps_cons (g_off rfl rfl rfl rfl rfl) ?_ | refine awpOps_cons (g_on rfl rfl rfl (op_ld ty25 rfl rfl rfl)) ?_
    all_goals first | refine awpOps_cons (g_off rfl rfl rfl rfl rfl) ?_ | refine awpOps_cons (g_on rfl rfl rfl (op_call fb11 (.cons rfl (Conv.of rfl) (.cons rfl (Conv.of rfl) (.nil _))) (lwNode_ct _ _) (argOk rfl rfl (argOk rfl rfl argOk0)) rfl rfl)) ?_
    all_goals first | refine awpOps_cons (g_off rfl rfl rfl rfl rfl) ?_ | refine awpOps_cons (g_on rfl rfl rfl (op_not rfl rfl)) ?_
    all_goals refine awpOps_cons (op_pick rfl rfl rfl rfl) ?_
    all_goals refine awpOps_cons (op_mv rfl (Conv.of rfl) rfl) ?_
    all_goals first | refine g_lit (t := 49) (b := true) rfl ?_ | refine g_split (t := 49) rfl (fun h => ?_) (fun h => ?_)
    all_goals first | refine awpOps_cons (g_off rfl rfl rfl rfl rfl) ?_ | refine awpOps_cons (g_on rfl rfl rfl (op_ld ty28 rfl rfl rfl)) ?_
    all_goals first | refine awpOps_cons (g_off rfl rfl rfl rfl rfl) ?_ | refine awpOps_cons (g_on rfl rfl rfl (op_ld ty28 rfl rfl rfl)) ?_
    all_goals first | refine awpOps_cons (g_off rfl rfl rfl rfl rfl) ?_ | refine awpOps_cons (g_on rfl rfl rfl (op_call fb12 (.cons rfl (Conv.of rfl) (.cons rfl (Conv.of rfl) (.nil _))) (lwVote_ct _ _) (argOk rfl rfl (argOk rfl rfl argOk0)) rfl rfl)) ?_
    all_goals first | refine awpOps_cons (g_off rfl rfl rfl rfl rfl) ?_ | refine awpOps_cons (g_on rfl rfl rfl (op_not rfl rfl)) ?_
    all_goals refine awpOps_cons (op_pick rfl rfl rfl rfl) ?_
    all_goals refine awpOps_cons (op_mv rfl (Conv.of rfl) rfl) ?_
    all_goals first | refine g_lit (t := 55) (b := true) rfl ?_ | refine g_split (t := 55) rfl (fun h => ?_) (fun h => ?_)
    all_goals first | refine awpOps_cons (g_off rfl rfl rfl rfl rfl) ?_ | refine awpOps_cons (g_on rfl rfl rfl (op_ld ty25 rfl rfl rfl)) ?_
    all_goals first | refine awpOps_cons (g_off rfl rfl rfl rfl rfl) ?_ | refine awpOps_cons (g_on rfl rfl rfl (op_call fb18 (.cons rfl (Conv.of rfl) (.nil _)) (sNodeOk_ct n) (argOk rfl rfl argOk0) rfl rfl)) ?_
    all_goals first | refine awpOps_cons (g_off rfl rfl rfl rfl rfl) ?_ | refine awpOps_cons (g_on rfl rfl rfl (op_not rfl rfl)) ?_
    all_goals refine awpOps_cons (op_pick rfl rfl rfl rfl) ?_
    all_goals refine awpOps_cons (op_mv rfl (Conv.of rfl) rfl) ?_
    all_goals first | refine g_lit (t := 60) (b := true) rfl ?_ | refine g_split (t := 60) rfl (fun h => ?_) (fun h => ?_)
    all_goals first | refine awpOps_cons (g_off rfl rfl rfl rfl rfl) ?_ | refine awpOps_cons (g_on rfl rfl rfl (op_fab f25_1 rfl rfl)) ?_
    all_goals first | refine awpOps_cons (g_off rfl rfl rfl rfl rfl) ?_ | refine awpOps_cons (g_on rfl rfl rfl (op_ld ty3 rfl rfl rfl)) ?_
    all_goals first | refine awpOps_cons (g_off rfl rfl rfl rfl rfl) ?_ | refine awpOps_cons (g_on rfl rfl rfl (op_eql rfl rfl rfl)) ?_
    all_goals refine awpOps_cons (op_pick rfl rfl rfl rfl) ?_
    all_goals refine awpOps_cons (op_mv rfl (Conv.of rfl) rfl) ?_
    all_goals first | refine g_lit (t := 65) (b := true) rfl ?_ | refine g_split (t := 65) rfl (fun h => ?_) (fun h => ?_)
    all_goals first | refine awpOps_cons (g_off rfl rfl rfl rfl rfl) ?_ | refine awpOps_cons (g_on rfl rfl rfl (op_fab f25_3 rfl rfl)) ?_
    all_goals first | refine awpOps_cons (g_off rfl rfl rfl rfl rfl) ?_ | refine awpOps_cons (g_on rfl rfl rfl (op_ld ty23 rfl rfl rfl)) ?_
    all_goals first | refine awpOps_cons (g_off rfl rfl rfl rfl rfl) ?_ | refine awpOps_cons (g_on rfl rfl rfl (op_len sl23 rfl rfl)) ?_
    all_goals first | refine awpOps_cons (g_off rfl rfl rfl rfl rfl) ?_ | refine awpOps_cons (g_on rfl rfl rfl (op_add rfl rfl rfl (by (have hd : (Enc.dis n).seen.length = n.seen.length := rfl; omega)))) ?_
    all_goals first | refine awpOps_cons (g_off rfl rfl rfl rfl rfl) ?_ | refine awpOps_cons (g_on rfl rfl rfl (op_gtr rfl rfl rfl)) ?_
    all_goals refine awpOps_cons (op_pick rfl rfl rfl rfl) ?_
    all_goals refine awpOps_nil ?_
    all_goals exact Le.mk rfl (tlb rfl rfl rfl (tlb rfl rfl rfl (tlb rfl rfl rfl (tlb rfl rfl rfl (tle rfl (rfl) rfl (tlb rfl rfl rfl (tlb rfl rfl rfl (tle rfl (rfl) rfl (tle rfl (by (have e1 : ∀ b : Bool, Enc.dis b = b := fun _ => rfl; have e2 : ∀ y : Nod, Enc.dis y = y := fun _ => rfl; have e3 : ∀ y : Vote, Enc.dis y = y := fun _ => rfl; show AV.v _ = AV.v _; simp_all; try (rw [Bool.eq_iff_iff]; simp))) rfl tln))))))))) (olk rfl (by exact obOk_cell) (olk rfl (by exact obOk_cell) (olk rfl (by exact obOk_cell) (olk rfl (by exact obOk_cell) (olk rfl (by exact obOk_cell) (olk rfl (by exact obOk_cell) oln)))))) noS
  refine awp_cond rfl (fun h => ?_) (fun h => ?_)
  · all_goals refine awp_seq (awp_region (id := 7) ?_)
    all_goals refine awpOps_cons (op_mv rfl (Conv.of rfl) rfl) ?_
    all_goals refine awpOps_cons (op_mv rfl (Conv.of rfl) rfl) ?_
    all_goals refine awpOps_cons (op_beql ub4 rfl rfl rfl) ?_
    all_goals refine awpOps_cons (op_mv rfl (Conv.of rfl) rfl) ?_
    all_goals refine g_split (t := 75) rfl (fun h => ?_) (fun h => ?_)
    all_goals first | refine awpOps_cons (g_off rfl rfl rfl rfl rfl) ?_ | refine awpOps_cons (g_on rfl rfl rfl (op_ld ty25 rfl rfl rfl)) ?_
    all_goals first | refine awpOps_cons (g_off rfl rfl rfl rfl rfl) ?_ | refine awpOps_cons (g_on rfl rfl rfl (op_ld ty25 rfl rfl rfl)) ?_
    all_goals first | refine awpOps_cons (g_off rfl rfl rfl rfl rfl) ?_ | refine awpOps_cons (g_on rfl rfl rfl (op_call fb11 (.cons rfl (Conv.of rfl) (.cons rfl (Conv.of rfl) (.nil _))) (lwNode_ct _ _) (argOk rfl rfl (argOk rfl rfl argOk0)) rfl rfl)) ?_
    all_goals refine awpOps_cons (op_pick rfl rfl rfl rfl) ?_
    all_goals refine awpOps_cons (op_mv rfl (Conv.of rfl) rfl) ?_
    all_goals first | refine g_lit (t := 80) (b := false) rfl ?_ | refine g_split (t := 80) rfl (fun h => ?_) (fun h => ?_)
    all_goals first | refine awpOps_cons (g_off rfl rfl rfl rfl rfl) ?_ | refine awpOps_cons (g_on rfl rfl rfl (op_ld ty28 rfl rfl rfl)) ?_
    all_goals first | refine awpOps_cons (g_off rfl rfl rfl rfl rfl) ?_ | refine awpOps_cons (g_on rfl rfl rfl (op_ld ty28 rfl rfl rfl)) ?_
    all_goals first | refine awpOps_cons (g_off rfl rfl rfl rfl rfl) ?_ | refine awpOps_cons (g_on rfl rfl rfl (op_call fb12 (.cons rfl (Conv.of rfl) (.cons rfl (Conv.of rfl) (.nil _))) (lwVote_ct _ _) (argOk rfl rfl (argOk rfl rfl argOk0)) rfl rfl)) ?_
    all_goals refine awpOps_cons (op_pick rfl rfl rfl rfl) ?_
    all_goals refine awpOps_cons (op_as rfl (Conv.of rfl) rfl) ?_
    all_goals refine awpOps_nil ?_
    all_goals refine awp_ret ?_
    all_goals refine finP (.v rfl (Conv.of rfl)) rfl ?_
    all_goals simp_all [FV.av]
  have h' : (nodeOk n = true ∧ ¬ n.epoch = 30) ∧ (n.seen.length : Int) + 2 ≤ 80 := by simpa using h
  obtain ⟨⟨hno, hep⟩, hlen⟩ := h'
  clear h
  have hm := enterF_ok (e := n.epoch + 1) hno
  have hni := nodeOk_iff.1 hno
  have hme : (enterF n (n.epoch + 1)).epoch = n.epoch + 1 := by unfold enterF; rw [if_pos (by simp [within]; omega)]
  have hms : (enterF n (n.epoch + 1)).seen = n.seen := by unfold enterF; split <;> rfl
  have hmv : (enterF n (n.epoch + 1)).voted = n.voted := by unfold enterF; split <;> rfl
  have hk := nodeEnter_ct n (n.epoch + 1) hno
  refine awp_skip ?_
  all_goals refine awp_seq (awp_region (id := 8) ?_)
  all_goals refine awpOps_cons (op_ld ty25 rfl rfl rfl) ?_
  all_goals refine awpOps_cons (op_fab f25_1 rfl rfl) ?_
  all_goals refine awpOps_cons (op_ld ty3 rfl rfl rfl) ?_
  all_goals refine awpOps_cons (op_add rfl rfl rfl (by omega)) ?_
  all_goals refine awpOps_cons (op_call fb20 (.cons rfl (Conv.of rfl) (.cons rfl (Conv.of rfl) (.nil _))) (hk) (argOk rfl rfl (argOk rfl rfl argOk0)) rfl rfl) ?_
  all_goals refine awpOps_cons (op_alloc (o := 7) z25 rfl rfl) ?_
  all_goals refine awpOps_cons (op_st ty25 rfl rfl (Conv.of rfl) rfl) ?_
  all_goals refine awpOps_nil ?_
  generalize enterF n (n.epoch + 1) = m at hm hme hms hmv hk ⊢
  have hmvt : m.voted < m.epoch := by omega
  have hso := nodeOk_seen hm
  have hto := sure_chainOk (votesOk_mem hso.1) (tip_sure m.seen)
  have htl := chainOk_len hto
  have hml : m.seen.length + 2 ≤ 80 := by rw [hms]; omega
  all_goals refine awp_seq (awp_region (id := 9) ?_)
  all_goals refine awpOps_cons (op_fab f25_1 rfl rfl) ?_
  all_goals refine awpOps_cons (op_ld ty3 rfl rfl rfl) ?_
  all_goals refine awpOps_cons (op_call fb14 (.cons rfl (Conv.of rfl) (.nil _)) (leader_ct _) (argOk rfl rfl argOk0) rfl rfl) ?_
  all_goals refine awpOps_cons (op_as rfl (Conv.of rfl) rfl) ?_
  all_goals refine awpOps_nil ?_
  refine awp_seq_to (s' := mkSt 167 [(11, .box 7 (IsLens.whole Nod)), (12, .v (leader m.epoch)), (13, .v (OList.mk (tipOf m.seen ++ [Itm.mk m.epoch ⟨2, 1, 3⟩]) true))] [(7, .cell m)]) ?_ ?_
  · all_goals refine dr_start (id := 10) ?_
    all_goals refine dr_cons (op_bsl sl26 z38 (.nil _) rfl (by decide) rfl) ?_
    all_goals refine dr_cons (op_fab f25_3 rfl rfl) ?_
    all_goals refine dr_cons (op_ld ty23 rfl rfl rfl) ?_
    all_goals refine dr_cons (op_call fb21 (.cons rfl (Conv.of rfl) (.nil _)) (treeTip_ct _ hso.1 (by omega)) (argOk rfl rfl argOk0) rfl rfl) ?_
    all_goals refine dr_cons (op_app sl26 z38 ul26 rfl rfl rfl (by (first | (simp; omega) | simp)) (by (first | (simp; omega) | simp)) rfl rfl) ?_
    all_goals refine dr_cons (op_fab f25_1 rfl rfl) ?_
    all_goals refine dr_cons (op_ld ty3 rfl rfl rfl) ?_
    all_goals refine dr_cons (op_build (.cons f36_0 rfl (Conv.of rfl) (.cons f36_1 rfl (Conv.of rfl) (.cons f36_2 rfl (Conv.of rfl) (.nil _)))) z36 rfl pl36 rfl) ?_
    all_goals refine dr_cons (op_build (.cons f38_0 rfl (Conv.of rfl) (.cons f38_1 rfl (Conv.of rfl) (.nil _))) z38 rfl pl38 rfl) ?_
    all_goals refine dr_cons (op_bsl sl26 z38 (.cons rfl (Conv.of rfl) (.nil _)) rfl (by decide) rfl) ?_
    all_goals refine dr_cons (op_app sl26 z38 ul26 rfl rfl rfl (by (first | (simp; omega) | simp)) (by (first | (simp; omega) | simp)) rfl rfl) ?_
    all_goals refine dr_cons (op_asl rfl rfl rfl rfl) ?_
    all_goals refine dr_nil mixed rfl ?_
    all_goals exact Le.mk rfl (tlb rfl rfl rfl (tle rfl (rfl) rfl (tle rfl (rfl) rfl tln))) (olk rfl (by exact obOk_cell) oln) noS
  generalize hcc : tipOf m.seen ++ [Itm.mk m.epoch ⟨2, 1, 3⟩] = c
  have hcl : c.length ≤ 17 := by rw [← hcc]; simp; omega
  all_goals refine awp_seq (awp_seq (awp_region (id := 11) ?_))
  all_goals refine awpOps_cons (op_as rfl (Conv.of rfl) rfl) ?_
  all_goals refine awpOps_nil ?_
  refine nx_seq (awp_to_ex (ι := Unit) (fun _ => mkSt 167 [(11, .box 7 (IsLens.whole Nod)), (12, .v (leader m.epoch)), (13, .v (OList.mk c true))] [(7, .cell m)]) (fun _ => ∀ u ∈ m.seen, lastEp u.chain < m.epoch) ?_ ?_)
  · refine awp_block ?_
    refine awp_loop' (fun n_ s => ∃ (k : Nat), ∃ (hk : n_ + k = m.seen.length), ∃ (hall : ∀ u ∈ m.seen.take k, lastEp u.chain < m.epoch), s = mkSt 167 [(11, .box 7 (IsLens.whole Nod)), (12, .v (leader m.epoch)), (13, .v (OList.mk c true)), (14, .v (k : Int))] [(7, .cell m)]) (m.seen.length) ⟨0, by omega, (fun u hu => by simp at hu), rfl⟩ (Le.mk rfl (tlb rfl rfl rfl (tle rfl (rfl) rfl (tle rfl (rfl) rfl (tle rfl (rfl) rfl tln)))) (olk rfl (by exact obOk_cell) oln) noS) ?_
    rintro n_ s ⟨k, hk, hall, rfl⟩
    all_goals refine awp_seq (awp_seq (awp_region (id := 12) ?_))
    all_goals refine awpOps_cons (op_mv rfl (Conv.of rfl) rfl) ?_
    all_goals refine awpOps_cons (op_fab f25_3 rfl rfl) ?_
    all_goals refine awpOps_cons (op_ld ty23 rfl rfl rfl) ?_
    all_goals refine awpOps_cons (op_len sl23 rfl rfl) ?_
    all_goals refine awpOps_cons (op_lss rfl rfl rfl) ?_
    all_goals refine awpOps_nil ?_
    refine awp_cond rfl (fun h => ?_) (fun h => ?_)
    · have hlt : k < m.seen.length := by
        have h0 : (k : Int) < (m.seen.length : Int) := of_decide_eq_true h
        omega
      have hx : m.seen[k]? = some m.seen[k] := List.getElem?_eq_getElem hlt
      generalize m.seen[k] = q at hx
      have hq := votesOk_mem hso.1 q (List.mem_of_getElem? hx)
      have hq1 := chainOk_len (voteOk_chain hq)
      have hq2 := voteOk_pos hq
      have hx' : m.seen[(k : Int).toNat]? = some q := hx
      have hy : q.chain[((q.chain.length : Int) - 1).toNat]? = some (q.chain[((q.chain.length : Int) - 1).toNat]'(by omega)) := List.getElem?_eq_getElem (by omega)
      have hye : (q.chain[((q.chain.length : Int) - 1).toNat]'(by omega)).epoch = lastEp q.chain := by
        symm
        apply lastEp_get
        rw [show q.chain.length - 1 = ((q.chain.length : Int) - 1).toNat by omega]
        exact List.getElem?_eq_getElem (by omega)
      generalize q.chain[((q.chain.length : Int) - 1).toNat]'(by omega) = z at hy hye
      refine awp_skip ?_
      refine awp_seq (awp_block ?_)
      all_goals refine awp_seq (dr_start (id := 14) ?_)
      all_goals refine dr_cons (op_fab f25_3 rfl rfl) ?_
      all_goals refine dr_cons (op_ld ty23 rfl rfl rfl) ?_
      all_goals refine dr_cons (op_mv rfl (Conv.of rfl) rfl) ?_
      all_goals refine dr_cons (op_ix sl23 rfl rfl rfl (by omega) hx') ?_
      all_goals refine dr_cons (op_far f28_1 rfl rfl) ?_
      all_goals refine dr_cons (op_ldr ty26 rfl rfl) ?_
      all_goals refine dr_cons (op_fab f25_3 rfl rfl) ?_
      all_goals refine dr_cons (op_ld ty23 rfl rfl rfl) ?_
      all_goals refine dr_cons (op_mv rfl (Conv.of rfl) rfl) ?_
      all_goals refine dr_cons (op_ix sl23 rfl rfl rfl (by omega) hx') ?_
      all_goals refine dr_cons (op_far f28_1 rfl rfl) ?_
      all_goals refine dr_cons (op_ldr ty26 rfl rfl) ?_
      all_goals refine dr_cons (op_len sl26 rfl rfl) ?_
      all_goals refine dr_cons (op_sub rfl rfl rfl (by omega)) ?_
      all_goals refine dr_cons (op_ix sl26 rfl rfl rfl (by omega) hy) ?_
      all_goals refine dr_cons (op_far f38_0 rfl rfl) ?_
      all_goals refine dr_cons (op_ldr ty3 rfl rfl) ?_
      all_goals refine dr_cons (op_fab f25_1 rfl rfl) ?_
      all_goals refine dr_cons (op_ld ty3 rfl rfl rfl) ?_
      all_goals refine dr_cons (op_geq rfl rfl rfl) ?_
      all_goals refine dr_nil mixed rfl ?_
      refine awp_cond rfl (fun h2 => ?_) (fun h2 => ?_)
      · all_goals refine awp_seq (awp_region (id := 15) ?_)
        all_goals refine awpOps_cons (op_as rfl (Conv.of rfl) rfl) ?_
        all_goals refine awpOps_nil ?_
        refine awp_ret ?_
        repeat first | refine rt_seq ?_ | refine rt_block ?_
        exact finP (.v rfl (Conv.of rfl)) rfl rfl
      · have hnx : ∀ u ∈ m.seen.take (k + 1), lastEp u.chain < m.epoch := fun u hu => by
          rw [take_at hx] at hu
          rcases List.mem_append.1 hu with p | p
          · exact hall u p
          · simp at p
            subst p
            have h3 : ¬ (z.epoch ≥ m.epoch) := of_decide_eq_false h2
            omega
        refine awp_skip ?_
        all_goals refine awp_region (id := 13) ?_
        all_goals refine awpOps_cons (op_mv rfl (Conv.of rfl) rfl) ?_
        all_goals refine awpOps_cons (op_add rfl rfl rfl (by omega)) ?_
        all_goals refine awpOps_cons (op_as rfl (Conv.of rfl) rfl) ?_
        all_goals refine awpOps_nil ?_
        repeat first | refine nx_seq ?_ | refine nx_block ?_
        exact ⟨n_ - 1, _, by omega, ⟨k + 1, by omega, hnx, rfl⟩, Le.mk rfl (tlb rfl rfl rfl (tle rfl (rfl) rfl (tle rfl (rfl) rfl (tle rfl (rfl) rfl tln)))) (olk rfl (by exact obOk_cell) oln) noS⟩
    · refine awp_exit ?_
      repeat refine ex_seq ?_
      refine ex_block ?_
      have hk2 : m.seen.length ≤ k := by
        have h0 : ¬ ((k : Int) < (m.seen.length : Int)) := of_decide_eq_false h
        omega
      exact nx_seq ⟨(), (by rwa [take_end hk2] at hall), Le.mk rfl (tlb rfl rfl rfl (tle rfl (rfl) rfl (tle rfl (rfl) rfl tln))) (olk rfl (by exact obOk_cell) oln) noS⟩
  rintro ⟨⟩ hall
  have k1 := nodeHear_ct m ⟨leader m.epoch, c⟩
  rw [show nodeHearR m ⟨leader m.epoch, c⟩ = hearF m ⟨leader m.epoch, c⟩ by unfold nodeHearR; rw [if_pos hm]] at k1
  have hno2 : (leader m.epoch = m.id ∨ chainOk c = false) → (hearF m ⟨leader m.epoch, c⟩).2.2 = false := fun hh => by
    unfold hearF
    rw [if_neg]
    rcases hh with q | q
    · simp [q]
    · simp [voteOk, q]
  have hyes : ¬ leader m.epoch = m.id → chainOk c = true → hearF m ⟨leader m.epoch, c⟩ = ({ m with voted := m.epoch, seen := m.seen ++ [⟨leader m.epoch, c⟩] ++ [⟨m.id, c⟩] }, ⟨m.id, c⟩, true) := fun q1 q2 => hear_leads hm hmvt hml hall q1 hcc.symm q2
  have y1 : ¬ leader m.epoch = m.id → chainOk c = true → (hearF m ⟨leader m.epoch, c⟩).2.2 = true := fun q1 q2 => by rw [hyes q1 q2]
  have y2 : ¬ leader m.epoch = m.id → chainOk c = true → (hearF m ⟨leader m.epoch, c⟩).2.1 = ⟨m.id, c⟩ := fun q1 q2 => by rw [hyes q1 q2]
  have y3 : ¬ leader m.epoch = m.id → chainOk c = true → (hearF m ⟨leader m.epoch, c⟩).1.voted = m.epoch := fun q1 q2 => by rw [hyes q1 q2]
  clear hyes
  generalize hearF m ⟨leader m.epoch, c⟩ = res at k1 hno2 y1 y2 y3
  obtain ⟨z, u, fine⟩ := res
  simp only at hno2 y1 y2 y3
  all_goals refine awp_seq (awp_region (id := 16) ?_)
  all_goals refine awpOps_cons (op_ld ty25 rfl rfl rfl) ?_
  all_goals refine awpOps_cons (op_mv rfl (Conv.of rfl) rfl) ?_
  all_goals refine awpOps_cons (op_mvl rfl rfl rfl rfl) ?_
  all_goals refine awpOps_cons (op_build (.cons f28_0 rfl (Conv.of rfl) (.cons f28_1 rfl (Conv.ol) (.nil _))) z28 rfl pl28 rfl) ?_
  all_goals refine awpOps_cons (op_call fb10 (.cons rfl (Conv.of rfl) (.cons rfl (Conv.of rfl) (.nil _))) (k1) (argOk rfl rfl (argOk rfl rfl argOk0)) rfl rfl) ?_
  all_goals refine awpOps_cons (op_mv rfl (Conv.of rfl) rfl) ?_
  all_goals refine awpOps_cons (op_ext rfl rfl rfl) ?_
  all_goals refine awpOps_cons (op_ext rfl rfl rfl) ?_
  all_goals refine awpOps_cons (op_ext rfl rfl rfl) ?_
  all_goals refine awpOps_cons (op_alloc (o := 8) z25 rfl rfl) ?_
  all_goals refine awpOps_cons (op_alloc (o := 9) z28 rfl rfl) ?_
  all_goals refine awpOps_cons (op_st ty25 rfl rfl (Conv.of rfl) rfl) ?_
  all_goals refine awpOps_cons (op_st ty28 rfl rfl (Conv.of rfl) rfl) ?_
  all_goals refine awpOps_cons (op_as rfl (Conv.of rfl) rfl) ?_
  all_goals refine awpOps_nil ?_
  refine awp_seq (awp_seq_to (s' := mkSt 167 [(11, .box 7 (IsLens.whole Nod)), (13, .v (OList.mk c false)), (15, .box 8 (IsLens.whole Nod)), (16, .box 9 (IsLens.whole Vote)), (17, .v fine), (148, .v (decide (leader m.epoch = m.id) || !chainOk c))] [(7, .cell m), (8, .cell z), (9, .cell u)]) ?_ ?_)
  · all_goals refine awp_region (id := 17) ?_
    all_goals refine awpOps_cons (op_mv rfl (Conv.of rfl) rfl) ?_
    all_goals refine awpOps_cons (op_fab f25_0 rfl rfl) ?_
    all_goals refine awpOps_cons (op_ld ty3 rfl rfl rfl) ?_
    all_goals refine awpOps_cons (op_eql rfl rfl rfl) ?_
    all_goals refine awpOps_cons (op_mv rfl (Conv.of rfl) rfl) ?_
    all_goals refine g_split (t := 144) rfl (fun h => ?_) (fun h => ?_)
    all_goals first | refine awpOps_cons (g_off rfl rfl rfl rfl rfl) ?_ | refine awpOps_cons (g_on rfl rfl rfl (op_mv rfl (Conv.of rfl) rfl)) ?_
    all_goals first | refine awpOps_cons (g_off rfl rfl rfl rfl rfl) ?_ | refine awpOps_cons (g_on rfl rfl rfl (op_call fb22 (.cons rfl (Conv.ol) (.nil _)) (chainOk_ct _) (argOk rfl rfl argOk0) rfl rfl)) ?_
    all_goals first | refine awpOps_cons (g_off rfl rfl rfl rfl rfl) ?_ | refine awpOps_cons (g_on rfl rfl rfl (op_not rfl rfl)) ?_
    all_goals refine awpOps_cons (op_pick rfl rfl rfl rfl) ?_
    all_goals refine awpOps_nil ?_
    all_goals exact Le.mk rfl (tlb rfl rfl rfl (tle rfl (rfl) rfl (tlb rfl rfl rfl (tlb rfl rfl rfl (tle rfl (rfl) rfl (tle rfl (by (have e1 : ∀ b : Bool, Enc.dis b = b := fun _ => rfl; show AV.v _ = AV.v _; simp_all; try (rw [Bool.eq_iff_iff]; simp))) rfl tln)))))) (olk rfl (by exact obOk_cell) (olk rfl (by exact obOk_cell) (olk rfl (by exact obOk_cell) oln))) noS
  refine awp_cond rfl (fun h => ?_) (fun h => ?_)
  · have hf : fine = false := hno2 (by simpa using h)
    subst hf
    all_goals refine awp_seq (awp_region (id := 18) ?_)
    all_goals refine awpOps_cons (op_mv rfl (Conv.of rfl) rfl) ?_
    all_goals refine awpOps_cons (op_not rfl rfl) ?_
    all_goals refine awpOps_cons (op_as rfl (Conv.of rfl) rfl) ?_
    all_goals refine awpOps_nil ?_
    refine awp_ret ?_
    repeat first | refine rt_seq ?_ | refine rt_block ?_
    exact finP (.v rfl (Conv.of rfl)) rfl rfl
  have h' : ¬ leader m.epoch = m.id ∧ chainOk c = true := by simpa using h
  have g1 := y1 h'.1 h'.2
  have g2 := y2 h'.1 h'.2
  have g3 := y3 h'.1 h'.2
  subst g1 g2
  have kv := lwVote_ct ⟨m.id, c⟩ ⟨m.id, c⟩
  rw [show decide ((⟨m.id, c⟩ : Vote) = ⟨m.id, c⟩) = true from decide_eq_true rfl] at kv
  refine awp_skip ?_
  all_goals refine awp_seq (awp_region (id := 19) ?_)
  all_goals refine awpOps_cons (op_mv rfl (Conv.of rfl) rfl) ?_
  all_goals refine awpOps_cons (op_mv rfl (Conv.of rfl) rfl) ?_
  all_goals refine g_lit (t := 152) (b := true) rfl ?_
  all_goals refine awpOps_cons (g_on rfl rfl rfl (op_ld ty28 rfl rfl rfl)) ?_
  all_goals refine awpOps_cons (g_on rfl rfl rfl (op_fab f25_0 rfl rfl)) ?_
  all_goals refine awpOps_cons (g_on rfl rfl rfl (op_ld ty3 rfl rfl rfl)) ?_
  all_goals refine awpOps_cons (g_on rfl rfl rfl (op_mv rfl (Conv.of rfl) rfl)) ?_
  all_goals refine awpOps_cons (g_on rfl rfl rfl (op_build (.cons f28_0 rfl (Conv.of rfl) (.cons f28_1 rfl (Conv.ol) (.nil _))) z28 rfl pl28 rfl)) ?_
  all_goals refine awpOps_cons (g_on rfl rfl rfl (op_call fb12 (.cons rfl (Conv.of rfl) (.cons rfl (Conv.of rfl) (.nil _))) (kv) (argOk rfl rfl (argOk rfl rfl argOk0)) rfl rfl)) ?_
  all_goals refine awpOps_cons (op_pick rfl rfl rfl rfl) ?_
  all_goals refine awpOps_cons (op_mv rfl (Conv.of rfl) rfl) ?_
  all_goals refine g_lit (t := 160) (b := true) rfl ?_
  all_goals refine awpOps_cons (g_on rfl rfl rfl (op_fab f25_2 rfl rfl)) ?_
  all_goals refine awpOps_cons (g_on rfl rfl rfl (op_ld ty3 rfl rfl rfl)) ?_
  all_goals refine awpOps_cons (g_on rfl rfl rfl (op_fab f25_1 rfl rfl)) ?_
  all_goals refine awpOps_cons (g_on rfl rfl rfl (op_ld ty3 rfl rfl rfl)) ?_
  all_goals refine awpOps_cons (g_on rfl rfl rfl (op_eql rfl rfl rfl)) ?_
  all_goals refine awpOps_cons (op_pick rfl rfl rfl rfl) ?_
  all_goals refine awpOps_cons (op_as rfl (Conv.of rfl) rfl) ?_
  all_goals refine awpOps_nil ?_
  all_goals refine awp_ret ?_
  all_goals refine finP (.v rfl (Conv.of rfl)) rfl ?_
  all_goals have e1 : ∀ b : Bool, Enc.dis b = b := fun _ => rfl
  all_goals have e2 : ∀ y : Nod, Enc.dis y = y := fun _ => rfl
  all_goals have e3 : ∀ y : Vote, Enc.dis y = y := fun _ => rfl
  all_goals simp_all [FV.av]
end Go.Proofs.Ytmabpmlcclgecaa

/- The law FnHearLeader returns true at every input, and leaves its arguments as they were. No condition. -/
set_option linter.unusedVariables false
namespace Go.Proofs.Ytmabpmlcclgecaa.fnHearLeader
open Go Go.ChangeShapes Go.WideShapes Go.ChangeAt Go.RowKit
theorem own : ownKnob Try.prog.godebug = none := by kernel_rfl
theorem laidOut : laidOutB Try.prog = true := by kernel_rfl
set_option maxRecDepth 100000 in
theorem lifted (os : Os) (started : os.Started) (H : Type) (enc : TypeId × Value → H) :
    ReturnsInHanded {} Try.checked os 5 .any (Rows.fnHearLeaderSpec.pre6 enc Try.prog Try.f5 Rows.fnHearLeaderRow.domain false) (Rows.fnHearLeaderSpec.post enc Try.prog Try.f5 false true false false) := by
  refine returnsInHanded_of_change_sized (C := Try.checked) own started (by kernel_rfl) Try.func5
    (ChangeSpec.witness6 (enc := enc) (C := Try.checked) false ⟨#[], #[.slice none 0 0], []⟩ 8 (by kernel_rfl) (by kernel_rfl) (by kernel_rfl) (by kernel_rfl)) ?_
  intro W base args ds gs before hval0 hW hcnd hsz0 _
  have hsz : (DataW.weightsEach Try.prog (Try.f5.params.toList ++ Rows.fnHearLeaderSpec.plain.varTypes Try.prog) (ds ++ gs)).all (· ≤ reachBytes) = true := hsz0
  have hval : ∀ (j : Nat) t v, Try.f5.params[j]? = some t → args[j]? = some v → Value.okWide Try.prog W .any base t v := hval0
  have hW' := hW
  obtain ⟨p, q, hA0, hV, rfl, hfz, hnd⟩ := hW
  have hA : DataW.TrodAll enc Try.prog W 0 (fun _ => true) true Try.f5.params.toList args.toList ds p := hA0
  rw [Try.params5] at hA hval hsz
  obtain ⟨v0, vs0, d0, ds0, p0, q0, hargs, rfl, rfl, h0, r0⟩ := trodAll_cons hA
  obtain ⟨rfl, rfl, rfl⟩ := trodAll_nil r0
  obtain rfl : args = #[v0] := by cases args; simp_all
  obtain ⟨rfl, rfl⟩ := trodVars_none hV
  obtain ⟨a0, len0, cap0, rfl⟩ := okWide_slice Try.underlying22 (hval 0 22 v0 rfl rfl)
  have k0 := h0
  have lt0 : ∀ x ∈ p0, x.block < W.heap.size := by obtain ⟨m, hm⟩ := k0; exact DataW.trod_lt m _ _ _ hm
  obtain ⟨z0, w0⟩ := Go.Wt.rowOf (fun _ => rfl) Try.underlying22 Try.underlying5 (by kernel_rfl) h0
  have y0 := Go.Wt.lenOf hsz (j := 0) (t := 22) rfl rfl Try.underlying22 Try.underlying5 (by kernel_rfl) (by kernel_rfl) h0
  clear hA0 hval0 hsz0 hsz
  refine (Go.Wt.row1 FnHearLeader_ct W w0 y0).mono fun e W' ⟨he, bel⟩ => ?_
  subst he
  exact ⟨_, rfl, _, _, _, [], _, [], hW', trodAll_mk1 (shut_bool Try.underlying4 _), (trodAll_cons_mk (Below.trod laidOut (by kernel_rfl) (of_decide_eq_true (by kernel_rfl)) k0 bel lt0) trodAll_mk0), rfl, bel.frame _, fun h => by cases h⟩
theorem over : Rows.fnHearLeaderRow.holds Try.pinned (OpenSpec.ofChange Rows.fnHearLeaderSpec) :=
  OpenClaim.holds_of_wide 5 Try.f5 rfl rfl rfl rfl rfl rfl rfl ⟨rfl, rfl, rfl, rfl, rfl⟩ rfl rfl rfl rfl rfl (by kernel_rfl) Try.func5 (by kernel_rfl)
    (of_decide_eq_true (by kernel_rfl)) (by unfold Func.isWrapper; first | (rw [if_pos (by decide +kernel)]; kernel_rfl) | (rw [if_neg (by decide +kernel)]; exact ⟨rfl, rfl⟩))
    (fun os started H enc _ => lifted os started H enc)
end Go.Proofs.Ytmabpmlcclgecaa.fnHearLeader
namespace Go.Proofs.Ytmabpmlcclgecaa
theorem fnHearLeader_holds : Rows.FnHearLeaderSaid := fnHearLeader.over
#print axioms fnHearLeader_holds
end Go.Proofs.Ytmabpmlcclgecaa
