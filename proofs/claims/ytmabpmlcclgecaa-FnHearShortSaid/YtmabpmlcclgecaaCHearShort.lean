/- The law FnHearShort returns true at every input, and leaves its arguments as they were. No condition. -/
import Derived.Test.YtmabpmlcclgecaaM5
import Derived.Test.YtmabpmlcclgecaaRows
import Derived.WalkKit
import Derived.ProofKit
import Derived.OpenShut
import Derived.ShutString
import Derived.ChangeOld
import Derived.Below
import Derived.SizedLaws
import Derived.KernelRfl
/- A law: what is behind a shorter one is not voted for. -/
set_option linter.unusedVariables false
set_option linter.unusedSimpArgs false
namespace Go.Proofs.Ytmabpmlcclgecaa
open Go Go.Wt
set_option maxHeartbeats 4000000 in
theorem FnHearShort_ct (code more : List UInt8) : CtP Try.prog 6 [.v code, .v more] (.v true) := by
  refine Ct.intro Try.func6 rfl rfl ?_
  refine awp_bigL 1 rfl (fun hmore => ?_)
  all_goals refine awp_seq (awp_region (id := 0) ?_)
  all_goals refine awpOps_cons (op_as rfl (Conv.of rfl) rfl) ?_
  all_goals refine awpOps_nil ?_
  refine awp_seq (awp_seq_to (s' := mkSt 151 [(0, .v code), (1, .v more), (27, .v (decide ((code.length : Int) > 1048576) || decide ((more.length : Int) > 1048576)))] []) ?_ ?_)
  · all_goals refine awp_region (id := 1) ?_
    all_goals refine awpOps_cons (op_mv rfl (Conv.of rfl) rfl) ?_
    all_goals refine awpOps_cons (op_len sl22 rfl rfl) ?_
    all_goals refine awpOps_cons (op_gtr rfl rfl rfl) ?_
    all_goals refine awpOps_cons (op_mv rfl (Conv.of rfl) rfl) ?_
    all_goals refine g_split (t := 23) rfl (fun h => ?_) (fun h => ?_)
    all_goals first | refine awpOps_cons (g_off rfl rfl rfl rfl rfl) ?_ | refine awpOps_cons (g_on rfl rfl rfl (op_mv rfl (Conv.of rfl) rfl)) ?_
    all_goals first | refine awpOps_cons (g_off rfl rfl rfl rfl rfl) ?_ | refine awpOps_cons (g_on rfl rfl rfl (op_len sl22 rfl rfl)) ?_
    all_goals first | refine awpOps_cons (g_off rfl rfl rfl rfl rfl) ?_ | refine awpOps_cons (g_on rfl rfl rfl (op_gtr rfl rfl rfl)) ?_
    all_goals refine awpOps_cons (op_pick rfl rfl rfl rfl) ?_
    all_goals refine awpOps_nil ?_
    all_goals exact Le.mk rfl (tle rfl (rfl) rfl (tle rfl (rfl) rfl (tle rfl (by (simp_all; try omega)) rfl tln))) oln noS
  refine awp_cond rfl (fun h => ?_) (fun h => ?_)
  · all_goals refine awp_seq (awp_region (id := 2) ?_)
    all_goals refine awpOps_cons (op_as rfl (Conv.of rfl) rfl) ?_
    all_goals refine awpOps_nil ?_
    refine awp_ret ?_
    repeat first | refine rt_seq ?_ | refine rt_block ?_
    exact finP (.v rfl (Conv.of rfl)) rfl rfl
  refine awp_skip ?_
  all_goals refine awp_seq (awp_region (id := 3) ?_)
  all_goals refine awpOps_cons (op_mv rfl (Conv.of rfl) rfl) ?_
  refine awpOps_callE (ι := Nod × Vote) [] (fun i => .tup [.v i.1, .v i.2]) (fun _ => []) (fun i => Ln i.1 ∧ i.2.chain.length ≤ 1000) rfl fb8 (.cons rfl (Conv.of rfl) (.nil _)) (drawNodeHear_ct code) (fun r h' ⟨n, v, e1, e2, e3, e4⟩ => ⟨(n, v), e1, e2, e3, e4⟩) ols0 oks0 (argOk' rfl rfl argO0) rfl (fun _ => rfl) (fun _ => oks0) (fun _ o ho => by cases ho) ?_
  rintro ⟨n, v⟩ ⟨hn, hv⟩
  simp only at hn hv ⊢
  all_goals refine awpOps_cons (op_mv rfl (Conv.of rfl) rfl) ?_
  all_goals refine awpOps_cons (op_ext rfl rfl rfl) ?_
  all_goals refine awpOps_cons (op_ext rfl rfl rfl) ?_
  all_goals refine awpOps_cons (op_alloc (o := 0) z25 rfl rfl) ?_
  all_goals refine awpOps_cons (op_alloc (o := 1) z28 rfl rfl) ?_
  all_goals refine awpOps_cons (op_st ty25 rfl rfl (Conv.of rfl) rfl) ?_
  all_goals refine awpOps_cons (op_st ty28 rfl rfl (Conv.of rfl) rfl) ?_
  all_goals refine awpOps_nil ?_
  all_goals refine awp_seq (awp_region (id := 4) ?_)
  all_goals refine awpOps_cons (op_ld ty25 rfl rfl rfl) ?_
  all_goals refine awpOps_cons (op_ld ty28 rfl rfl rfl) ?_
  all_goals refine awpOps_cons (op_call fb9 (.cons rfl (Conv.of rfl) (.cons rfl (Conv.of rfl) (.nil _))) (sNodeHear_ct n v (by omega)) (argOk rfl rfl (argOk rfl rfl argOk0)) rfl rfl) ?_
  all_goals refine awpOps_cons (op_mv rfl (Conv.of rfl) rfl) ?_
  all_goals refine awpOps_cons (op_ext rfl rfl rfl) ?_
  all_goals refine awpOps_cons (op_ext rfl rfl rfl) ?_
  all_goals refine awpOps_cons (op_ext rfl rfl rfl) ?_
  all_goals refine awpOps_cons (op_alloc (o := 2) z25 rfl rfl) ?_
  all_goals refine awpOps_cons (op_alloc (o := 3) z28 rfl rfl) ?_
  all_goals refine awpOps_cons (op_st ty25 rfl rfl (Conv.of rfl) rfl) ?_
  all_goals refine awpOps_cons (op_st ty28 rfl rfl (Conv.of rfl) rfl) ?_
  all_goals refine awpOps_cons (op_as rfl (Conv.of rfl) rfl) ?_
  all_goals refine awpOps_nil ?_
  all_goals refine awp_seq (awp_region (id := 5) ?_)
  all_goals refine awpOps_cons (op_ld ty25 rfl rfl rfl) ?_
  all_goals refine awpOps_cons (op_ld ty28 rfl rfl rfl) ?_
  all_goals refine awpOps_cons (op_call fb10 (.cons rfl (Conv.of rfl) (.cons rfl (Conv.of rfl) (.nil _))) (nodeHear_ct n v) (argOk rfl rfl (argOk rfl rfl argOk0)) rfl rfl) ?_
  all_goals refine awpOps_cons (op_mv rfl (Conv.of rfl) rfl) ?_
  all_goals refine awpOps_cons (op_ext rfl rfl rfl) ?_
  all_goals refine awpOps_cons (op_ext rfl rfl rfl) ?_
  all_goals refine awpOps_cons (op_ext rfl rfl rfl) ?_
  all_goals refine awpOps_cons (op_alloc (o := 4) z25 rfl rfl) ?_
  all_goals refine awpOps_cons (op_alloc (o := 6) z28 rfl rfl) ?_
  all_goals refine awpOps_cons (op_st ty25 rfl rfl (Conv.of rfl) rfl) ?_
  all_goals refine awpOps_cons (op_st ty28 rfl rfl (Conv.of rfl) rfl) ?_
  all_goals refine awpOps_cons (op_as rfl (Conv.of rfl) rfl) ?_
  all_goals refine awpOps_nil ?_
  refine awp_seq (awp_seq_to (s' := mkSt 151 [(1, .v more), (5, .box 0 (IsLens.whole Nod)), (6, .box 1 (IsLens.whole Vote)), (7, .box 2 (IsLens.whole Nod)), (8, .box 3 (IsLens.whole Vote)), (9, .v (nodeHearR n v).2.2), (10, .box 4 (IsLens.whole Nod)), (11, .box 6 (IsLens.whole Vote)), (12, .v (nodeHearR n v).2.2), (71, .v (!nodeOk n || decide (n.epoch = 30)))] [(0, .cell n), (1, .cell v), (2, .cell (nodeHearR n v).1), (3, .cell (nodeHearR n v).2.1), (4, .cell (nodeHearR n v).1), (6, .cell (nodeHearR n v).2.1)]) ?_ ?_)
  · all_goals refine awp_region (id := 6) ?_
    all_goals refine awpOps_cons (op_mv rfl (Conv.of rfl) rfl) ?_
    all_goals refine awpOps_cons (op_mv rfl (Conv.of rfl) rfl) ?_
    all_goals refine awpOps_cons (op_bneq ub4 rfl rfl rfl) ?_
    all_goals refine awpOps_cons (op_mv rfl (Conv.of rfl) rfl) ?_
    all_goals refine g_split (t := 50) rfl (fun h => ?_) (fun h => ?_)
    all_goals first | refine awpOps_cons (g_off rfl rfl rfl rfl rfl) ?_ | refine awpOps_cons (g_on rfl rfl rfl (op_ld ty25 rfl rfl rfl)) ?_
    all_goals first | refine awpOps_cons (g_off rfl rfl rfl rfl rfl) ?_ | refine awpOps_cons (g_on rfl rfl rfl (op_ld ty25 rfl rfl rfl)) ?_
    all_goals first | refine awpOps_cons (g_off rfl rfl rfl rfl rfl) ?_ | refine awpOps_cons (g_on rfl rfl rfl (op_call fb11 (.cons rfl (Conv.of rfl) (.cons rfl (Conv.of rfl) (.nil _))) (lwNode_ct _ _) (argOk rfl rfl (argOk rfl rfl argOk0)) rfl rfl)) ?_
    all_goals first | refine awpOps_cons (g_off rfl rfl rfl rfl rfl) ?_ | refine awpOps_cons (g_on rfl rfl rfl (op_not rfl rfl)) ?_
    all_goals refine awpOps_cons (op_pick rfl rfl rfl rfl) ?_
    all_goals refine awpOps_cons (op_mv rfl (Conv.of rfl) rfl) ?_
    all_goals first | refine g_lit (t := 56) (b := true) rfl ?_ | refine g_split (t := 56) rfl (fun h => ?_) (fun h => ?_)
    all_goals first | refine awpOps_cons (g_off rfl rfl rfl rfl rfl) ?_ | refine awpOps_cons (g_on rfl rfl rfl (op_ld ty28 rfl rfl rfl)) ?_
    all_goals first | refine awpOps_cons (g_off rfl rfl rfl rfl rfl) ?_ | refine awpOps_cons (g_on rfl rfl rfl (op_ld ty28 rfl rfl rfl)) ?_
    all_goals first | refine awpOps_cons (g_off rfl rfl rfl rfl rfl) ?_ | refine awpOps_cons (g_on rfl rfl rfl (op_call fb12 (.cons rfl (Conv.of rfl) (.cons rfl (Conv.of rfl) (.nil _))) (lwVote_ct _ _) (argOk rfl rfl (argOk rfl rfl argOk0)) rfl rfl)) ?_
    all_goals first | refine awpOps_cons (g_off rfl rfl rfl rfl rfl) ?_ | refine awpOps_cons (g_on rfl rfl rfl (op_not rfl rfl)) ?_
    all_goals refine awpOps_cons (op_pick rfl rfl rfl rfl) ?_
    all_goals refine awpOps_cons (op_mv rfl (Conv.of rfl) rfl) ?_
    all_goals first | refine g_lit (t := 62) (b := true) rfl ?_ | refine g_split (t := 62) rfl (fun h => ?_) (fun h => ?_)
    all_goals first | refine awpOps_cons (g_off rfl rfl rfl rfl rfl) ?_ | refine awpOps_cons (g_on rfl rfl rfl (op_ld ty25 rfl rfl rfl)) ?_
    all_goals first | refine awpOps_cons (g_off rfl rfl rfl rfl rfl) ?_ | refine awpOps_cons (g_on rfl rfl rfl (op_call fb18 (.cons rfl (Conv.of rfl) (.nil _)) (sNodeOk_ct n) (argOk rfl rfl argOk0) rfl rfl)) ?_
    all_goals first | refine awpOps_cons (g_off rfl rfl rfl rfl rfl) ?_ | refine awpOps_cons (g_on rfl rfl rfl (op_not rfl rfl)) ?_
    all_goals refine awpOps_cons (op_pick rfl rfl rfl rfl) ?_
    all_goals refine awpOps_cons (op_mv rfl (Conv.of rfl) rfl) ?_
    all_goals first | refine g_lit (t := 67) (b := true) rfl ?_ | refine g_split (t := 67) rfl (fun h => ?_) (fun h => ?_)
    all_goals first | refine awpOps_cons (g_off rfl rfl rfl rfl rfl) ?_ | refine awpOps_cons (g_on rfl rfl rfl (op_fab f25_1 rfl rfl)) ?_
    all_goals first | refine awpOps_cons (g_off rfl rfl rfl rfl rfl) ?_ | refine awpOps_cons (g_on rfl rfl rfl (op_ld ty3 rfl rfl rfl)) ?_
    all_goals first | refine awpOps_cons (g_off rfl rfl rfl rfl rfl) ?_ | refine awpOps_cons (g_on rfl rfl rfl (op_eql rfl rfl rfl)) ?_
    all_goals refine awpOps_cons (op_pick rfl rfl rfl rfl) ?_
    all_goals refine awpOps_nil ?_
    all_goals exact Le.mk rfl (tle rfl (rfl) rfl (tlb rfl rfl rfl (tlb rfl rfl rfl (tlb rfl rfl rfl (tlb rfl rfl rfl (tle rfl (rfl) rfl (tlb rfl rfl rfl (tlb rfl rfl rfl (tle rfl (rfl) rfl (tle rfl (by (have e1 : ∀ b : Bool, Enc.dis b = b := fun _ => rfl; have e2 : ∀ y : Nod, Enc.dis y = y := fun _ => rfl; have e3 : ∀ y : Vote, Enc.dis y = y := fun _ => rfl; show AV.v _ = AV.v _; simp_all; try (rw [Bool.eq_iff_iff]; simp))) rfl tln)))))))))) (olk rfl (by exact obOk_cell) (olk rfl (by exact obOk_cell) (olk rfl (by exact obOk_cell) (olk rfl (by exact obOk_cell) (olk rfl (by exact obOk_cell) (olk rfl (by exact obOk_cell) oln)))))) noS
  refine awp_cond rfl (fun h => ?_) (fun h => ?_)
  · all_goals refine awp_seq (awp_region (id := 7) ?_)
    all_goals refine awpOps_cons (op_mv rfl (Conv.of rfl) rfl) ?_
    all_goals refine awpOps_cons (op_mv rfl (Conv.of rfl) rfl) ?_
    all_goals refine awpOps_cons (op_beql ub4 rfl rfl rfl) ?_
    all_goals refine awpOps_cons (op_mv rfl (Conv.of rfl) rfl) ?_
    all_goals refine g_split (t := 75) rfl (fun h => ?_) (fun h => ?_)
    all_goals first | refine awpOps_cons (g_off rfl rfl rfl rfl rfl) ?_ | refine awpOps_cons (g_on rfl rfl rfl (op_ld ty25 rfl rfl rfl)) ?_
    all_goals first | refine awpOps_cons (g_off rfl rfl rfl rfl rfl) ?_ | refine awpOps_cons (g_on rfl rfl rfl (op_ld ty25 rfl rfl rfl)) ?_
    all_goals first | refine awpOps_cons (g_off rfl rfl rfl rfl rfl) ?_ | refine awpOps_cons (g_on rfl rfl rfl (op_call fb11 (.cons rfl (Conv.of rfl) (.cons rfl (Conv.of rfl) (.nil _))) (lwNode_ct _ _) (argOk rfl rfl (argOk rfl rfl argOk0)) rfl rfl)) ?_
    all_goals refine awpOps_cons (op_pick rfl rfl rfl rfl) ?_
    all_goals refine awpOps_cons (op_mv rfl (Conv.of rfl) rfl) ?_
    all_goals first | refine g_lit (t := 80) (b := false) rfl ?_ | refine g_split (t := 80) rfl (fun h => ?_) (fun h => ?_)
    all_goals first | refine awpOps_cons (g_off rfl rfl rfl rfl rfl) ?_ | refine awpOps_cons (g_on rfl rfl rfl (op_ld ty28 rfl rfl rfl)) ?_
    all_goals first | refine awpOps_cons (g_off rfl rfl rfl rfl rfl) ?_ | refine awpOps_cons (g_on rfl rfl rfl (op_ld ty28 rfl rfl rfl)) ?_
    all_goals first | refine awpOps_cons (g_off rfl rfl rfl rfl rfl) ?_ | refine awpOps_cons (g_on rfl rfl rfl (op_call fb12 (.cons rfl (Conv.of rfl) (.cons rfl (Conv.of rfl) (.nil _))) (lwVote_ct _ _) (argOk rfl rfl (argOk rfl rfl argOk0)) rfl rfl)) ?_
    all_goals refine awpOps_cons (op_pick rfl rfl rfl rfl) ?_
    all_goals refine awpOps_cons (op_as rfl (Conv.of rfl) rfl) ?_
    all_goals refine awpOps_nil ?_
    all_goals refine awp_ret ?_
    all_goals refine finP (.v rfl (Conv.of rfl)) rfl ?_
    all_goals simp_all [FV.av]
  have h' : nodeOk n = true ∧ ¬ n.epoch = 30 := by simpa using h
  obtain ⟨hno, hep⟩ := h'
  clear h
  have hm := enterF_ok (e := n.epoch + 1) hno
  have hni := nodeOk_iff.1 hno
  have hme : (enterF n (n.epoch + 1)).epoch = n.epoch + 1 := by unfold enterF; rw [if_pos (by simp [within]; omega)]
  have hms : (enterF n (n.epoch + 1)).seen = n.seen := by unfold enterF; split <;> rfl
  have hmv : (enterF n (n.epoch + 1)).voted = n.voted := by unfold enterF; split <;> rfl
  have hk := nodeEnter_ct n (n.epoch + 1) hno
  refine awp_skip ?_
  all_goals refine awp_seq (awp_region (id := 8) ?_)
  all_goals refine awpOps_cons (op_ld ty25 rfl rfl rfl) ?_
  all_goals refine awpOps_cons (op_fab f25_1 rfl rfl) ?_
  all_goals refine awpOps_cons (op_ld ty3 rfl rfl rfl) ?_
  all_goals refine awpOps_cons (op_add rfl rfl rfl (by omega)) ?_
  all_goals refine awpOps_cons (op_call fb20 (.cons rfl (Conv.of rfl) (.cons rfl (Conv.of rfl) (.nil _))) (hk) (argOk rfl rfl (argOk rfl rfl argOk0)) rfl rfl) ?_
  all_goals refine awpOps_cons (op_alloc (o := 7) z25 rfl rfl) ?_
  all_goals refine awpOps_cons (op_st ty25 rfl rfl (Conv.of rfl) rfl) ?_
  all_goals refine awpOps_nil ?_
  generalize enterF n (n.epoch + 1) = m at hm hme hms hmv hk ⊢
  have hmvt : m.voted < m.epoch := by omega
  have hso := nodeOk_seen hm
  have hto := sure_chainOk (votesOk_mem hso.1) (tip_sure m.seen)
  have htl := chainOk_len hto
  all_goals refine awp_seq (awp_region (id := 9) ?_)
  all_goals refine awpOps_cons (op_fab f25_3 rfl rfl) ?_
  all_goals refine awpOps_cons (op_ld ty23 rfl rfl rfl) ?_
  all_goals refine awpOps_cons (op_call fb21 (.cons rfl (Conv.of rfl) (.nil _)) (treeTip_ct _ hso.1 (by omega)) (argOk rfl rfl argOk0) rfl rfl) ?_
  all_goals refine awpOps_cons (op_as rfl (Conv.of rfl) rfl) ?_
  all_goals refine awpOps_nil ?_
  all_goals refine awp_seq (awp_seq (awp_region (id := 10) ?_))
  all_goals refine awpOps_cons (op_as rfl (Conv.of rfl) rfl) ?_
  all_goals refine awpOps_nil ?_
  refine nx_seq (awp_to_ex (ι := Unit) (fun _ => mkSt 151 [(1, .v more), (13, .box 7 (IsLens.whole Nod)), (14, .v (CList.mk (tipOf m.seen)))] [(7, .cell m)]) (fun _ => ∀ u ∈ m.seen, lastEp u.chain < m.epoch) ?_ ?_)
  · refine awp_block ?_
    refine awp_loop' (fun n_ s => ∃ (k : Nat), ∃ (hk : n_ + k = m.seen.length), ∃ (hall : ∀ u ∈ m.seen.take k, lastEp u.chain < m.epoch), s = mkSt 151 [(1, .v more), (13, .box 7 (IsLens.whole Nod)), (14, .v (CList.mk (tipOf m.seen))), (15, .v (k : Int))] [(7, .cell m)]) (m.seen.length) ⟨0, by omega, (fun u hu => by simp at hu), rfl⟩ (Le.mk rfl (tle rfl (rfl) rfl (tlb rfl rfl rfl (tle rfl (rfl) rfl (tle rfl (rfl) rfl tln)))) (olk rfl (by exact obOk_cell) oln) noS) ?_
    rintro n_ s ⟨k, hk, hall, rfl⟩
    all_goals refine awp_seq (awp_seq (awp_region (id := 11) ?_))
    all_goals refine awpOps_cons (op_mv rfl (Conv.of rfl) rfl) ?_
    all_goals refine awpOps_cons (op_fab f25_3 rfl rfl) ?_
    all_goals refine awpOps_cons (op_ld ty23 rfl rfl rfl) ?_
    all_goals refine awpOps_cons (op_len sl23 rfl rfl) ?_
    all_goals refine awpOps_cons (op_lss rfl rfl rfl) ?_
    all_goals refine awpOps_nil ?_
    refine awp_cond rfl (fun h => ?_) (fun h => ?_)
    · have hlt : k < m.seen.length := by
        have h0 : (k : Int) < (m.seen.length : Int) := of_decide_eq_true h
        omega
      have hx : m.seen[k]? = some m.seen[k] := List.getElem?_eq_getElem hlt
      generalize m.seen[k] = q at hx
      have hq := votesOk_mem hso.1 q (List.mem_of_getElem? hx)
      have hq1 := chainOk_len (voteOk_chain hq)
      have hq2 := voteOk_pos hq
      have hx' : m.seen[(k : Int).toNat]? = some q := hx
      have hy : q.chain[((q.chain.length : Int) - 1).toNat]? = some (q.chain[((q.chain.length : Int) - 1).toNat]'(by omega)) := List.getElem?_eq_getElem (by omega)
      have hye : (q.chain[((q.chain.length : Int) - 1).toNat]'(by omega)).epoch = lastEp q.chain := by
        symm
        apply lastEp_get
        rw [show q.chain.length - 1 = ((q.chain.length : Int) - 1).toNat by omega]
        exact List.getElem?_eq_getElem (by omega)
      generalize q.chain[((q.chain.length : Int) - 1).toNat]'(by omega) = z at hy hye
      refine awp_skip ?_
      refine awp_seq (awp_block ?_)
      all_goals refine awp_seq (dr_start (id := 13) ?_)
      all_goals refine dr_cons (op_fab f25_3 rfl rfl) ?_
      all_goals refine dr_cons (op_ld ty23 rfl rfl rfl) ?_
      all_goals refine dr_cons (op_mv rfl (Conv.of rfl) rfl) ?_
      all_goals refine dr_cons (op_ix sl23 rfl rfl rfl (by omega) hx') ?_
      all_goals refine dr_cons (op_far f28_1 rfl rfl) ?_
      all_goals refine dr_cons (op_ldr ty26 rfl rfl) ?_
      all_goals refine dr_cons (op_fab f25_3 rfl rfl) ?_
      all_goals refine dr_cons (op_ld ty23 rfl rfl rfl) ?_
      all_goals refine dr_cons (op_mv rfl (Conv.of rfl) rfl) ?_
      all_goals refine dr_cons (op_ix sl23 rfl rfl rfl (by omega) hx') ?_
      all_goals refine dr_cons (op_far f28_1 rfl rfl) ?_
      all_goals refine dr_cons (op_ldr ty26 rfl rfl) ?_
      all_goals refine dr_cons (op_len sl26 rfl rfl) ?_
      all_goals refine dr_cons (op_sub rfl rfl rfl (by omega)) ?_
      all_goals refine dr_cons (op_ix sl26 rfl rfl rfl (by omega) hy) ?_
      all_goals refine dr_cons (op_far f38_0 rfl rfl) ?_
      all_goals refine dr_cons (op_ldr ty3 rfl rfl) ?_
      all_goals refine dr_cons (op_fab f25_1 rfl rfl) ?_
      all_goals refine dr_cons (op_ld ty3 rfl rfl rfl) ?_
      all_goals refine dr_cons (op_geq rfl rfl rfl) ?_
      all_goals refine dr_nil mixed rfl ?_
      refine awp_cond rfl (fun h2 => ?_) (fun h2 => ?_)
      · all_goals refine awp_seq (awp_region (id := 14) ?_)
        all_goals refine awpOps_cons (op_as rfl (Conv.of rfl) rfl) ?_
        all_goals refine awpOps_nil ?_
        refine awp_ret ?_
        repeat first | refine rt_seq ?_ | refine rt_block ?_
        exact finP (.v rfl (Conv.of rfl)) rfl rfl
      · have hnx : ∀ u ∈ m.seen.take (k + 1), lastEp u.chain < m.epoch := fun u hu => by
          rw [take_at hx] at hu
          rcases List.mem_append.1 hu with p | p
          · exact hall u p
          · simp at p
            subst p
            have h3 : ¬ (z.epoch ≥ m.epoch) := of_decide_eq_false h2
            omega
        refine awp_skip ?_
        all_goals refine awp_region (id := 12) ?_
        all_goals refine awpOps_cons (op_mv rfl (Conv.of rfl) rfl) ?_
        all_goals refine awpOps_cons (op_add rfl rfl rfl (by omega)) ?_
        all_goals refine awpOps_cons (op_as rfl (Conv.of rfl) rfl) ?_
        all_goals refine awpOps_nil ?_
        repeat first | refine nx_seq ?_ | refine nx_block ?_
        exact ⟨n_ - 1, _, by omega, ⟨k + 1, by omega, hnx, rfl⟩, Le.mk rfl (tle rfl (rfl) rfl (tlb rfl rfl rfl (tle rfl (rfl) rfl (tle rfl (rfl) rfl tln)))) (olk rfl (by exact obOk_cell) oln) noS⟩
    · refine awp_exit ?_
      repeat refine ex_seq ?_
      refine ex_block ?_
      have hk2 : m.seen.length ≤ k := by
        have h0 : ¬ ((k : Int) < (m.seen.length : Int)) := of_decide_eq_false h
        omega
      exact nx_seq ⟨(), (by rwa [take_end hk2] at hall), Le.mk rfl (tle rfl (rfl) rfl (tlb rfl rfl rfl (tle rfl (rfl) rfl tln))) (olk rfl (by exact obOk_cell) oln) noS⟩
  rintro ⟨⟩ hall
  all_goals refine awp_seq (awp_seq (awp_region (id := 15) ?_))
  all_goals refine awpOps_cons (op_mv rfl (Conv.of rfl) rfl) ?_
  all_goals refine awpOps_cons (op_len sl26 rfl rfl) ?_
  all_goals refine awpOps_cons (op_eql rfl rfl rfl) ?_
  all_goals refine awpOps_nil ?_
  refine awp_cond rfl (fun h => ?_) (fun h => ?_)
  · all_goals refine awp_seq (awp_region (id := 16) ?_)
    all_goals refine awpOps_cons (op_as rfl (Conv.of rfl) rfl) ?_
    all_goals refine awpOps_nil ?_
    refine awp_ret ?_
    repeat first | refine rt_seq ?_ | refine rt_block ?_
    exact finP (.v rfl (Conv.of rfl)) rfl rfl
  have hne : 0 < (tipOf m.seen).length := by
    have h0 : ((((tipOf m.seen).length : Nat) : Int) == 0) = false := h
    simp at h0
    exact List.length_pos_iff.2 h0
  have hcut := tmod_bd (show (0 : Int) ≤ (more.length : Int) by omega) (show (0 : Int) < ((tipOf m.seen).length : Int) by omega)
  refine awp_skip ?_
  refine awp_seq_to (s' := mkSt 151 [(13, .box 7 (IsLens.whole Nod)), (16, .v (OList.mk ((tipOf m.seen).take ((more.length : Int).tmod ((tipOf m.seen).length : Int)).toNat ++ [Itm.mk m.epoch ⟨2, 1, 3⟩]) true))] [(7, .cell m)]) ?_ ?_
  · all_goals refine dr_start (id := 17) ?_
    all_goals refine dr_cons (op_bsl sl26 z38 (.nil _) rfl (by decide) rfl) ?_
    all_goals refine dr_cons (op_mv rfl (Conv.of rfl) rfl) ?_
    all_goals refine dr_cons (op_mv rfl (Conv.of rfl) rfl) ?_
    all_goals refine dr_cons (op_len sl22 rfl rfl) ?_
    all_goals refine dr_cons (op_mv rfl (Conv.of rfl) rfl) ?_
    all_goals refine dr_cons (op_len sl26 rfl rfl) ?_
    all_goals refine dr_cons (op_rem rfl rfl rfl (by (show (((tipOf m.seen).length : Nat) : Int) ≠ 0; omega))) ?_
    all_goals refine dr_cons (op_slh sl26 rfl rfl rfl (by (try simp); omega)) ?_
    all_goals refine dr_cons (op_app sl26 z38 ul26 rfl rfl rfl (by (first | (simp; omega) | simp)) (by (first | (simp; omega) | simp)) rfl rfl) ?_
    all_goals refine dr_cons (op_fab f25_1 rfl rfl) ?_
    all_goals refine dr_cons (op_ld ty3 rfl rfl rfl) ?_
    all_goals refine dr_cons (op_build (.cons f36_0 rfl (Conv.of rfl) (.cons f36_1 rfl (Conv.of rfl) (.cons f36_2 rfl (Conv.of rfl) (.nil _)))) z36 rfl pl36 rfl) ?_
    all_goals refine dr_cons (op_build (.cons f38_0 rfl (Conv.of rfl) (.cons f38_1 rfl (Conv.of rfl) (.nil _))) z38 rfl pl38 rfl) ?_
    all_goals refine dr_cons (op_bsl sl26 z38 (.cons rfl (Conv.of rfl) (.nil _)) rfl (by decide) rfl) ?_
    all_goals refine dr_cons (op_app sl26 z38 ul26 rfl rfl rfl (by (first | (simp; omega) | simp)) (by (first | (simp; omega) | simp)) rfl rfl) ?_
    all_goals refine dr_cons (op_asl rfl rfl rfl rfl) ?_
    all_goals refine dr_nil mixed rfl ?_
    all_goals exact Le.mk rfl (tlb rfl rfl rfl (tle rfl (rfl) rfl tln)) (olk rfl (by exact obOk_cell) oln) noS
  generalize hcc : (tipOf m.seen).take ((more.length : Int).tmod ((tipOf m.seen).length : Int)).toNat ++ [Itm.mk m.epoch ⟨2, 1, 3⟩] = c
  have k1 := nodeHear_ct m ⟨leader m.epoch, c⟩
  rw [show nodeHearR m ⟨leader m.epoch, c⟩ = hearF m ⟨leader m.epoch, c⟩ by unfold nodeHearR; rw [if_pos hm]] at k1
  have hsh := hear_short (m := m) (b := leader m.epoch) (c := c) (p := ⟨2, 1, 3⟩) (k := ((more.length : Int).tmod ((tipOf m.seen).length : Int)).toNat) hall (by omega) hcc.symm
  generalize hearF m ⟨leader m.epoch, c⟩ = res at k1 hsh
  obtain ⟨z, u, fine⟩ := res
  simp only at hsh
  subst hsh
  all_goals refine awp_seq (dr_start (id := 18) ?_)
  all_goals refine dr_cons (op_ld ty25 rfl rfl rfl) ?_
  all_goals refine dr_cons (op_fab f25_1 rfl rfl) ?_
  all_goals refine dr_cons (op_ld ty3 rfl rfl rfl) ?_
  all_goals refine dr_cons (op_call fb14 (.cons rfl (Conv.of rfl) (.nil _)) (leader_ct _) (argOk rfl rfl argOk0) rfl rfl) ?_
  all_goals refine dr_cons (op_mvl rfl rfl rfl rfl) ?_
  all_goals refine dr_cons (op_build (.cons f28_0 rfl (Conv.of rfl) (.cons f28_1 rfl (Conv.ol) (.nil _))) z28 rfl pl28 rfl) ?_
  all_goals refine dr_cons (op_call fb10 (.cons rfl (Conv.of rfl) (.cons rfl (Conv.of rfl) (.nil _))) (k1) (argOk rfl rfl (argOk rfl rfl argOk0)) rfl rfl) ?_
  all_goals refine dr_cons (op_mv rfl (Conv.of rfl) rfl) ?_
  all_goals refine dr_cons (op_ext rfl rfl rfl) ?_
  all_goals refine dr_cons (op_ext rfl rfl rfl) ?_
  all_goals refine dr_cons (op_ext rfl rfl rfl) ?_
  all_goals refine dr_cons (op_alloc (o := 8) z25 rfl rfl) ?_
  all_goals refine dr_cons (op_alloc (o := 9) z28 rfl rfl) ?_
  all_goals refine dr_cons (op_st ty25 rfl rfl (Conv.of rfl) rfl) ?_
  all_goals refine dr_cons (op_st ty28 rfl rfl (Conv.of rfl) rfl) ?_
  all_goals refine dr_cons (op_as rfl (Conv.of rfl) rfl) ?_
  all_goals refine dr_nil mixed rfl ?_
  all_goals refine awp_seq (awp_region (id := 19) ?_)
  all_goals refine awpOps_cons (op_mv rfl (Conv.of rfl) rfl) ?_
  all_goals refine awpOps_cons (op_not rfl rfl) ?_
  all_goals refine awpOps_cons (op_as rfl (Conv.of rfl) rfl) ?_
  all_goals refine awpOps_nil ?_
  all_goals refine awp_ret ?_
  all_goals refine finP (.v rfl (Conv.of rfl)) rfl ?_
  all_goals have e1 : ∀ b : Bool, Enc.dis b = b := fun _ => rfl
  all_goals have e2 : ∀ y : Nod, Enc.dis y = y := fun _ => rfl
  all_goals have e3 : ∀ y : Vote, Enc.dis y = y := fun _ => rfl
  all_goals simp_all [FV.av]
end Go.Proofs.Ytmabpmlcclgecaa

/- The law FnHearShort returns true at every input, and leaves its arguments as they were. No condition. -/
set_option linter.unusedVariables false
namespace Go.Proofs.Ytmabpmlcclgecaa.fnHearShort
open Go Go.ChangeShapes Go.WideShapes Go.ChangeAt Go.RowKit
theorem own : ownKnob Try.prog.godebug = none := by kernel_rfl
theorem laidOut : laidOutB Try.prog = true := by kernel_rfl
set_option maxRecDepth 100000 in
theorem lifted (os : Os) (started : os.Started) (H : Type) (enc : TypeId × Value → H) :
    ReturnsInHanded {} Try.checked os 6 .any (Rows.fnHearShortSpec.pre6 enc Try.prog Try.f6 Rows.fnHearShortRow.domain false) (Rows.fnHearShortSpec.post enc Try.prog Try.f6 false true false false) := by
  refine returnsInHanded_of_change_sized (C := Try.checked) own started (by kernel_rfl) Try.func6
    (ChangeSpec.witness6 (enc := enc) (C := Try.checked) false ⟨#[], #[.slice none 0 0, .slice none 0 0], []⟩ 8 (by kernel_rfl) (by kernel_rfl) (by kernel_rfl) (by kernel_rfl)) ?_
  intro W base args ds gs before hval0 hW hcnd hsz0 _
  have hsz : (DataW.weightsEach Try.prog (Try.f6.params.toList ++ Rows.fnHearShortSpec.plain.varTypes Try.prog) (ds ++ gs)).all (· ≤ reachBytes) = true := hsz0
  have hval : ∀ (j : Nat) t v, Try.f6.params[j]? = some t → args[j]? = some v → Value.okWide Try.prog W .any base t v := hval0
  have hW' := hW
  obtain ⟨p, q, hA0, hV, rfl, hfz, hnd⟩ := hW
  have hA : DataW.TrodAll enc Try.prog W 0 (fun _ => true) true Try.f6.params.toList args.toList ds p := hA0
  rw [Try.params6] at hA hval hsz
  obtain ⟨v0, vs0, d0, ds0, p0, q0, hargs, rfl, rfl, h0, r0⟩ := trodAll_cons hA
  obtain ⟨v1, vs1, d1, ds1, p1, q1, rfl, rfl, rfl, h1, r1⟩ := trodAll_cons r0
  obtain ⟨rfl, rfl, rfl⟩ := trodAll_nil r1
  obtain rfl : args = #[v0, v1] := by cases args; simp_all
  obtain ⟨rfl, rfl⟩ := trodVars_none hV
  obtain ⟨a0, len0, cap0, rfl⟩ := okWide_slice Try.underlying22 (hval 0 22 v0 rfl rfl)
  have k0 := h0
  have lt0 : ∀ x ∈ p0, x.block < W.heap.size := by obtain ⟨m, hm⟩ := k0; exact DataW.trod_lt m _ _ _ hm
  obtain ⟨z0, w0⟩ := Go.Wt.rowOf (fun _ => rfl) Try.underlying22 Try.underlying5 (by kernel_rfl) h0
  have y0 := Go.Wt.lenOf hsz (j := 0) (t := 22) rfl rfl Try.underlying22 Try.underlying5 (by kernel_rfl) (by kernel_rfl) h0
  obtain ⟨a1, len1, cap1, rfl⟩ := okWide_slice Try.underlying22 (hval 1 22 v1 rfl rfl)
  have k1 := h1
  have lt1 : ∀ x ∈ p1, x.block < W.heap.size := by obtain ⟨m, hm⟩ := k1; exact DataW.trod_lt m _ _ _ hm
  obtain ⟨z1, w1⟩ := Go.Wt.rowOf (fun _ => rfl) Try.underlying22 Try.underlying5 (by kernel_rfl) h1
  have y1 := Go.Wt.lenOf hsz (j := 1) (t := 22) rfl rfl Try.underlying22 Try.underlying5 (by kernel_rfl) (by kernel_rfl) h1
  clear hA0 hval0 hsz0 hsz
  refine (Go.Wt.row2 FnHearShort_ct W w0 y0 w1 y1).mono fun e W' ⟨he, bel⟩ => ?_
  subst he
  exact ⟨_, rfl, _, _, _, [], _, [], hW', trodAll_mk1 (shut_bool Try.underlying4 _), (trodAll_cons_mk (Below.trod laidOut (by kernel_rfl) (of_decide_eq_true (by kernel_rfl)) k0 bel lt0) (trodAll_cons_mk (Below.trod laidOut (by kernel_rfl) (of_decide_eq_true (by kernel_rfl)) k1 bel lt1) trodAll_mk0)), rfl, bel.frame _, fun h => by cases h⟩
theorem over : Rows.fnHearShortRow.holds Try.pinned (OpenSpec.ofChange Rows.fnHearShortSpec) :=
  OpenClaim.holds_of_wide 6 Try.f6 rfl rfl rfl rfl rfl rfl rfl ⟨rfl, rfl, rfl, rfl, rfl⟩ rfl rfl rfl rfl rfl (by kernel_rfl) Try.func6 (by kernel_rfl)
    (of_decide_eq_true (by kernel_rfl)) (by unfold Func.isWrapper; first | (rw [if_pos (by decide +kernel)]; kernel_rfl) | (rw [if_neg (by decide +kernel)]; exact ⟨rfl, rfl⟩))
    (fun os started H enc _ => lifted os started H enc)
end Go.Proofs.Ytmabpmlcclgecaa.fnHearShort
namespace Go.Proofs.Ytmabpmlcclgecaa
theorem fnHearShort_holds : Rows.FnHearShortSaid := fnHearShort.over
#print axioms fnHearShort_holds
end Go.Proofs.Ytmabpmlcclgecaa
