/- The law FnHearVote returns true at every input, and leaves its arguments as they were. No condition. -/
import Derived.Test.YtmabpmlcclgecaaM5
import Derived.Test.YtmabpmlcclgecaaRows
import Derived.WalkKit
import Derived.ProofKit
import Derived.OpenShut
import Derived.ShutString
import Derived.ChangeOld
import Derived.Below
import Derived.SizedLaws
import Derived.KernelRfl
/- A law: a node votes for what the leader proposed. -/
set_option linter.unusedVariables false
set_option linter.unusedSimpArgs false
namespace Go.Proofs.Ytmabpmlcclgecaa
open Go Go.Wt
set_option maxHeartbeats 4000000 in
theorem FnHearVote_ct (code : List UInt8) : CtP Try.prog 3 [.v code] (.v true) := by
  refine Ct.intro Try.func3 rfl rfl ?_
  all_goals refine awp_seq (awp_region (id := 0) ?_)
  all_goals refine awpOps_cons (op_as rfl (Conv.of rfl) rfl) ?_
  all_goals refine awpOps_nil ?_
  all_goals refine awp_seq (awp_seq (awp_region (id := 1) ?_))
  all_goals refine awpOps_cons (op_mv rfl (Conv.of rfl) rfl) ?_
  all_goals refine awpOps_cons (op_len sl22 rfl rfl) ?_
  all_goals refine awpOps_cons (op_gtr rfl rfl rfl) ?_
  all_goals refine awpOps_nil ?_
  refine awp_cond rfl (fun h => ?_) (fun h => ?_)
  · all_goals refine awp_seq (awp_region (id := 2) ?_)
    all_goals refine awpOps_cons (op_as rfl (Conv.of rfl) rfl) ?_
    all_goals refine awpOps_nil ?_
    refine awp_ret ?_
    repeat first | refine rt_seq ?_ | refine rt_block ?_
    exact finP (.v rfl (Conv.of rfl)) rfl rfl
  refine awp_skip ?_
  all_goals refine awp_seq (awp_region (id := 3) ?_)
  all_goals refine awpOps_cons (op_mv rfl (Conv.of rfl) rfl) ?_
  refine awpOps_callE (ι := Nod × Vote) [] (fun i => .tup [.v i.1, .v i.2]) (fun _ => []) (fun i => Ln i.1 ∧ i.2.chain.length ≤ 1000) rfl fb8 (.cons rfl (Conv.of rfl) (.nil _)) (drawNodeHear_ct code) (fun r h' ⟨n, v, e1, e2, e3, e4⟩ => ⟨(n, v), e1, e2, e3, e4⟩) ols0 oks0 (argOk' rfl rfl argO0) rfl (fun _ => rfl) (fun _ => oks0) (fun _ o ho => by cases ho) ?_
  rintro ⟨n, v⟩ ⟨hn, hv⟩
  simp only at hn hv ⊢
  all_goals refine awpOps_cons (op_mv rfl (Conv.of rfl) rfl) ?_
  all_goals refine awpOps_cons (op_ext rfl rfl rfl) ?_
  all_goals refine awpOps_cons (op_ext rfl rfl rfl) ?_
  all_goals refine awpOps_cons (op_alloc (o := 0) z25 rfl rfl) ?_
  all_goals refine awpOps_cons (op_alloc (o := 1) z28 rfl rfl) ?_
  all_goals refine awpOps_cons (op_st ty25 rfl rfl (Conv.of rfl) rfl) ?_
  all_goals refine awpOps_cons (op_st ty28 rfl rfl (Conv.of rfl) rfl) ?_
  all_goals refine awpOps_nil ?_
  all_goals refine awp_seq (awp_region (id := 4) ?_)
  all_goals refine awpOps_cons (op_ld ty25 rfl rfl rfl) ?_
  all_goals refine awpOps_cons (op_ld ty28 rfl rfl rfl) ?_
  all_goals refine awpOps_cons (op_call fb9 (.cons rfl (Conv.of rfl) (.cons rfl (Conv.of rfl) (.nil _))) (sNodeHear_ct n v (by omega)) (argOk rfl rfl (argOk rfl rfl argOk0)) rfl rfl) ?_
  all_goals refine awpOps_cons (op_mv rfl (Conv.of rfl) rfl) ?_
  all_goals refine awpOps_cons (op_ext rfl rfl rfl) ?_
  all_goals refine awpOps_cons (op_ext rfl rfl rfl) ?_
  all_goals refine awpOps_cons (op_ext rfl rfl rfl) ?_
  all_goals refine awpOps_cons (op_alloc (o := 2) z25 rfl rfl) ?_
  all_goals refine awpOps_cons (op_alloc (o := 3) z28 rfl rfl) ?_
  all_goals refine awpOps_cons (op_st ty25 rfl rfl (Conv.of rfl) rfl) ?_
  all_goals refine awpOps_cons (op_st ty28 rfl rfl (Conv.of rfl) rfl) ?_
  all_goals refine awpOps_cons (op_as rfl (Conv.of rfl) rfl) ?_
  all_goals refine awpOps_nil ?_
  all_goals refine awp_seq (awp_region (id := 5) ?_)
  all_goals refine awpOps_cons (op_ld ty25 rfl rfl rfl) ?_
  all_goals refine awpOps_cons (op_ld ty28 rfl rfl rfl) ?_
  all_goals refine awpOps_cons (op_call fb10 (.cons rfl (Conv.of rfl) (.cons rfl (Conv.of rfl) (.nil _))) (nodeHear_ct n v) (argOk rfl rfl (argOk rfl rfl argOk0)) rfl rfl) ?_
  all_goals refine awpOps_cons (op_mv rfl (Conv.of rfl) rfl) ?_
  all_goals refine awpOps_cons (op_ext rfl rfl rfl) ?_
  all_goals refine awpOps_cons (op_ext rfl rfl rfl) ?_
  all_goals refine awpOps_cons (op_ext rfl rfl rfl) ?_
  all_goals refine awpOps_cons (op_alloc (o := 4) z25 rfl rfl) ?_
  all_goals refine awpOps_cons (op_alloc (o := 6) z28 rfl rfl) ?_
  all_goals refine awpOps_cons (op_st ty25 rfl rfl (Conv.of rfl) rfl) ?_
  all_goals refine awpOps_cons (op_st ty28 rfl rfl (Conv.of rfl) rfl) ?_
  all_goals refine awpOps_cons (op_as rfl (Conv.of rfl) rfl) ?_
  all_goals refine awpOps_nil ?_
  refine awp_seq (awp_seq_to (s' := mkSt 138 [(3, .box 0 (IsLens.whole Nod)), (4, .box 1 (IsLens.whole Vote)), (5, .box 2 (IsLens.whole Nod)), (6, .box 3 (IsLens.whole Vote)), (7, .v (nodeHearR n v).2.2), (8, .box 4 (IsLens.whole Nod)), (9, .box 6 (IsLens.whole Vote)), (10, .v (nodeHearR n v).2.2), (53, .v (!(nodeHearR n v).2.2))] [(0, .cell n), (1, .cell v), (2, .cell (nodeHearR n v).1), (3, .cell (nodeHearR n v).2.1), (4, .cell (nodeHearR n v).1), (6, .cell (nodeHearR n v).2.1)]) ?_ ?_)
  · all_goals refine awp_region (id := 6) ?_
    all_goals refine awpOps_cons (op_mv rfl (Conv.of rfl) rfl) ?_
    all_goals refine awpOps_cons (op_mv rfl (Conv.of rfl) rfl) ?_
    all_goals refine awpOps_cons (op_bneq ub4 rfl rfl rfl) ?_
    all_goals refine awpOps_cons (op_mv rfl (Conv.of rfl) rfl) ?_
    all_goals refine g_split (t := 38) rfl (fun h => ?_) (fun h => ?_)
    all_goals first | refine awpOps_cons (g_off rfl rfl rfl rfl rfl) ?_ | refine awpOps_cons (g_on rfl rfl rfl (op_ld ty25 rfl rfl rfl)) ?_
    all_goals first | refine awpOps_cons (g_off rfl rfl rfl rfl rfl) ?_ | refine awpOps_cons (g_on rfl rfl rfl (op_ld ty25 rfl rfl rfl)) ?_
    all_goals first | refine awpOps_cons (g_off rfl rfl rfl rfl rfl) ?_ | refine awpOps_cons (g_on rfl rfl rfl (op_call fb11 (.cons rfl (Conv.of rfl) (.cons rfl (Conv.of rfl) (.nil _))) (lwNode_ct _ _) (argOk rfl rfl (argOk rfl rfl argOk0)) rfl rfl)) ?_
    all_goals first | refine awpOps_cons (g_off rfl rfl rfl rfl rfl) ?_ | refine awpOps_cons (g_on rfl rfl rfl (op_not rfl rfl)) ?_
    all_goals refine awpOps_cons (op_pick rfl rfl rfl rfl) ?_
    all_goals refine awpOps_cons (op_mv rfl (Conv.of rfl) rfl) ?_
    all_goals first | refine g_lit (t := 44) (b := true) rfl ?_ | refine g_split (t := 44) rfl (fun h => ?_) (fun h => ?_)
    all_goals first | refine awpOps_cons (g_off rfl rfl rfl rfl rfl) ?_ | refine awpOps_cons (g_on rfl rfl rfl (op_ld ty28 rfl rfl rfl)) ?_
    all_goals first | refine awpOps_cons (g_off rfl rfl rfl rfl rfl) ?_ | refine awpOps_cons (g_on rfl rfl rfl (op_ld ty28 rfl rfl rfl)) ?_
    all_goals first | refine awpOps_cons (g_off rfl rfl rfl rfl rfl) ?_ | refine awpOps_cons (g_on rfl rfl rfl (op_call fb12 (.cons rfl (Conv.of rfl) (.cons rfl (Conv.of rfl) (.nil _))) (lwVote_ct _ _) (argOk rfl rfl (argOk rfl rfl argOk0)) rfl rfl)) ?_
    all_goals first | refine awpOps_cons (g_off rfl rfl rfl rfl rfl) ?_ | refine awpOps_cons (g_on rfl rfl rfl (op_not rfl rfl)) ?_
    all_goals refine awpOps_cons (op_pick rfl rfl rfl rfl) ?_
    all_goals refine awpOps_cons (op_mv rfl (Conv.of rfl) rfl) ?_
    all_goals first | refine g_lit (t := 50) (b := true) rfl ?_ | refine g_split (t := 50) rfl (fun h => ?_) (fun h => ?_)
    all_goals first | refine awpOps_cons (g_off rfl rfl rfl rfl rfl) ?_ | refine awpOps_cons (g_on rfl rfl rfl (op_mv rfl (Conv.of rfl) rfl)) ?_
    all_goals first | refine awpOps_cons (g_off rfl rfl rfl rfl rfl) ?_ | refine awpOps_cons (g_on rfl rfl rfl (op_not rfl rfl)) ?_
    all_goals refine awpOps_cons (op_pick rfl rfl rfl rfl) ?_
    all_goals refine awpOps_nil ?_
    all_goals exact Le.mk rfl (tlb rfl rfl rfl (tlb rfl rfl rfl (tlb rfl rfl rfl (tlb rfl rfl rfl (tle rfl (rfl) rfl (tlb rfl rfl rfl (tlb rfl rfl rfl (tle rfl (rfl) rfl (tle rfl (by first | rfl | (have e1 : ∀ b : Bool, Enc.dis b = b := fun _ => rfl; have e2 : ∀ y : Nod, Enc.dis y = y := fun _ => rfl; have e3 : ∀ y : Vote, Enc.dis y = y := fun _ => rfl; show AV.v _ = AV.v _; simp_all; try (rw [Bool.eq_iff_iff]; simp))) rfl tln))))))))) (olk rfl (by exact obOk_cell) (olk rfl (by exact obOk_cell) (olk rfl (by exact obOk_cell) (olk rfl (by exact obOk_cell) (olk rfl (by exact obOk_cell) (olk rfl (by exact obOk_cell) oln)))))) noS
  refine awp_cond rfl (fun h => ?_) (fun h => ?_)
  · all_goals refine awp_seq (awp_region (id := 7) ?_)
    all_goals refine awpOps_cons (op_mv rfl (Conv.of rfl) rfl) ?_
    all_goals refine awpOps_cons (op_mv rfl (Conv.of rfl) rfl) ?_
    all_goals refine awpOps_cons (op_beql ub4 rfl rfl rfl) ?_
    all_goals refine awpOps_cons (op_mv rfl (Conv.of rfl) rfl) ?_
    all_goals refine g_split (t := 57) rfl (fun h => ?_) (fun h => ?_)
    all_goals first | refine awpOps_cons (g_off rfl rfl rfl rfl rfl) ?_ | refine awpOps_cons (g_on rfl rfl rfl (op_ld ty25 rfl rfl rfl)) ?_
    all_goals first | refine awpOps_cons (g_off rfl rfl rfl rfl rfl) ?_ | refine awpOps_cons (g_on rfl rfl rfl (op_ld ty25 rfl rfl rfl)) ?_
    all_goals first | refine awpOps_cons (g_off rfl rfl rfl rfl rfl) ?_ | refine awpOps_cons (g_on rfl rfl rfl (op_call fb11 (.cons rfl (Conv.of rfl) (.cons rfl (Conv.of rfl) (.nil _))) (lwNode_ct _ _) (argOk rfl rfl (argOk rfl rfl argOk0)) rfl rfl)) ?_
    all_goals refine awpOps_cons (op_pick rfl rfl rfl rfl) ?_
    all_goals refine awpOps_cons (op_mv rfl (Conv.of rfl) rfl) ?_
    all_goals first | refine g_lit (t := 62) (b := false) rfl ?_ | refine g_split (t := 62) rfl (fun h => ?_) (fun h => ?_)
    all_goals first | refine awpOps_cons (g_off rfl rfl rfl rfl rfl) ?_ | refine awpOps_cons (g_on rfl rfl rfl (op_ld ty28 rfl rfl rfl)) ?_
    all_goals first | refine awpOps_cons (g_off rfl rfl rfl rfl rfl) ?_ | refine awpOps_cons (g_on rfl rfl rfl (op_ld ty28 rfl rfl rfl)) ?_
    all_goals first | refine awpOps_cons (g_off rfl rfl rfl rfl rfl) ?_ | refine awpOps_cons (g_on rfl rfl rfl (op_call fb12 (.cons rfl (Conv.of rfl) (.cons rfl (Conv.of rfl) (.nil _))) (lwVote_ct _ _) (argOk rfl rfl (argOk rfl rfl argOk0)) rfl rfl)) ?_
    all_goals refine awpOps_cons (op_pick rfl rfl rfl rfl) ?_
    all_goals refine awpOps_cons (op_as rfl (Conv.of rfl) rfl) ?_
    all_goals refine awpOps_nil ?_
    all_goals refine awp_ret ?_
    all_goals refine finP (.v rfl (Conv.of rfl)) rfl ?_
    all_goals simp_all [FV.av]
  have hk : (nodeHearR n v).2.2 = true := not_f h
  have hno : nodeOk n = true := by
    cases hno : nodeOk n with
    | true => rfl
    | false => unfold nodeHearR at hk; rw [hno] at hk; cases hk
  have hR : nodeHearR n v = hearF n v := by unfold nodeHearR; rw [if_pos hno]
  rw [hR] at hk ⊢
  obtain ⟨m, c, hx, hm, he, hid, hvo, hlt, hle, hlen, hsu, hco, hmem, hms⟩ := hear_vote hno hk
  have x1 : (hearF n v).1 = { m with voted := n.epoch, seen := m.seen ++ [⟨n.id, c⟩] } := by rw [hx]
  have x2 : (hearF n v).2.1 = ⟨n.id, c⟩ := by rw [hx]
  have x3 : (hearF n v).2.2 = true := by rw [hx]
  rw [x1, x2, x3]
  clear hk hR hx x1 x2 x3 h
  refine awp_skip ?_
  have hs := nodeOk_seen hm
  have hcl := chainOk_len hco
  have hst : (m.seen ++ [Vote.mk n.id c]).take ((m.seen.length : Nat) : Int).toNat = m.seen := by simp
  have hix : c[((c.length : Int) - 1).toNat]? = some (c[((c.length : Int) - 1).toNat]'(by omega)) := List.getElem?_eq_getElem (by omega)
  have hie : (c[((c.length : Int) - 1).toNat]'(by omega)).epoch = n.epoch := by
    rw [← hle]
    symm
    apply lastEp_get
    rw [show c.length - 1 = ((c.length : Int) - 1).toNat by omega]
    exact List.getElem?_eq_getElem (by omega)
  generalize c[((c.length : Int) - 1).toNat]'(by omega) = it at hix hie
  have hct : c.take ((c.length : Int) - 1).toNat = c.take (c.length - 1) := by congr 1; omega
  have hcp : chainOk (c.take (c.length - 1)) = true := chainOk_take hco _
  have k1 : CtP Try.prog 13 [.v m.seen, .v (Vote.mk (leader n.epoch) c)] (.v true) := by have := lwHas_ct m.seen ⟨leader n.epoch, c⟩; rwa [decide_eq_true hmem] at this
  have k2 : CtP Try.prog 15 [.v m.seen, .v (c.take ((c.length : Int) - 1).toNat)] (.v true) := by
    have := treeSure_ct m.seen (c.take ((c.length : Int) - 1).toNat)
    rwa [show (votesOk m.seen && chainOk (c.take ((c.length : Int) - 1).toNat) && sure m.seen (c.take ((c.length : Int) - 1).toNat)) = true by rw [hct, hs.1, hcp, hsu]; rfl] at this
  have k3 := treeLong_ct m.seen hs.1 (by omega)
  have k4 : CtP Try.prog 13 [.v (m.seen ++ [Vote.mk n.id c]), .v (Vote.mk n.id c)] (.v true) := by have := lwHas_ct (m.seen ++ [Vote.mk n.id c]) ⟨n.id, c⟩; rwa [decide_eq_true (by simp)] at this
  all_goals refine awp_seq (awp_region (id := 8) ?_)
  all_goals refine awpOps_cons (op_fab f28_1 rfl rfl) ?_
  all_goals refine awpOps_cons (op_ld ty26 rfl rfl rfl) ?_
  all_goals refine awpOps_cons (op_len sl26 rfl rfl) ?_
  all_goals refine awpOps_cons (op_sub rfl rfl rfl (by (simp; omega))) ?_
  all_goals refine awpOps_cons (op_as rfl (Conv.of rfl) rfl) ?_
  all_goals refine awpOps_nil ?_
  refine awp_seq_to (s' := mkSt 138 [(3, .box 0 (IsLens.whole Nod)), (8, .box 4 (IsLens.whole Nod)), (9, .box 6 (IsLens.whole Vote)), (11, .v ((c.length : Int) - 1)), (12, .v m.seen)] [(0, .cell n), (4, .cell (Nod.mk m.id m.epoch n.epoch (m.seen ++ [Vote.mk n.id c]))), (6, .cell (Vote.mk n.id c))]) ?_ ?_
  · all_goals refine awp_region (id := 9) ?_
    all_goals refine awpOps_cons (op_fab f25_3 rfl rfl) ?_
    all_goals refine awpOps_cons (op_ld ty23 rfl rfl rfl) ?_
    all_goals refine awpOps_cons (op_fab f25_3 rfl rfl) ?_
    all_goals refine awpOps_cons (op_ld ty23 rfl rfl rfl) ?_
    all_goals refine awpOps_cons (op_len sl23 rfl rfl) ?_
    all_goals refine awpOps_cons (op_sub rfl rfl rfl (by (first | (simp; omega) | simp))) ?_
    all_goals refine awpOps_cons (op_slh sl23 rfl rfl rfl (by simp)) ?_
    all_goals refine awpOps_cons (op_as rfl (Conv.of rfl) rfl) ?_
    all_goals refine awpOps_nil ?_
    all_goals exact Le.mk rfl (tlb rfl rfl rfl (tlb rfl rfl rfl (tlb rfl rfl rfl (tle rfl (rfl) rfl (tle rfl (by (show AV.v _ = AV.v _; simp)) rfl tln))))) (olk rfl (by exact obOk_cell) (olk rfl (by exact obOk_cell) (olk rfl (by exact obOk_cell) oln))) noS
  all_goals refine awp_seq (dr_start (id := 10) ?_)
  all_goals refine dr_cons (op_fab f25_2 rfl rfl) ?_
  all_goals refine dr_cons (op_ld ty3 rfl rfl rfl) ?_
  all_goals refine dr_cons (op_fab f25_1 rfl rfl) ?_
  all_goals refine dr_cons (op_ld ty3 rfl rfl rfl) ?_
  all_goals refine dr_cons (op_lss rfl rfl rfl) ?_
  all_goals refine dr_cons (op_mv rfl (Conv.of rfl) rfl) ?_
  all_goals refine dr_split (t := 83) rfl (fun h => ?_) (fun h => ?_)
  all_goals first | refine dr_cons (g_off rfl rfl rfl rfl rfl) ?_ | refine dr_cons (g_on rfl rfl rfl (op_fab f25_2 rfl rfl)) ?_
  all_goals first | refine dr_cons (g_off rfl rfl rfl rfl rfl) ?_ | refine dr_cons (g_on rfl rfl rfl (op_ld ty3 rfl rfl rfl)) ?_
  all_goals first | refine dr_cons (g_off rfl rfl rfl rfl rfl) ?_ | refine dr_cons (g_on rfl rfl rfl (op_fab f25_1 rfl rfl)) ?_
  all_goals first | refine dr_cons (g_off rfl rfl rfl rfl rfl) ?_ | refine dr_cons (g_on rfl rfl rfl (op_ld ty3 rfl rfl rfl)) ?_
  all_goals first | refine dr_cons (g_off rfl rfl rfl rfl rfl) ?_ | refine dr_cons (g_on rfl rfl rfl (op_eql rfl rfl rfl)) ?_
  all_goals refine dr_cons (op_pick rfl rfl rfl rfl) ?_
  all_goals refine dr_cons (op_mv rfl (Conv.of rfl) rfl) ?_
  all_goals first | refine dr_lit (t := 90) (b := false) rfl ?_ | refine dr_split (t := 90) rfl (fun h => ?_) (fun h => ?_)
  all_goals first | refine dr_cons (g_off rfl rfl rfl rfl rfl) ?_ | refine dr_cons (g_on rfl rfl rfl (op_fab f28_0 rfl rfl)) ?_
  all_goals first | refine dr_cons (g_off rfl rfl rfl rfl rfl) ?_ | refine dr_cons (g_on rfl rfl rfl (op_ld ty3 rfl rfl rfl)) ?_
  all_goals first | refine dr_cons (g_off rfl rfl rfl rfl rfl) ?_ | refine dr_cons (g_on rfl rfl rfl (op_fab f25_0 rfl rfl)) ?_
  all_goals first | refine dr_cons (g_off rfl rfl rfl rfl rfl) ?_ | refine dr_cons (g_on rfl rfl rfl (op_ld ty3 rfl rfl rfl)) ?_
  all_goals first | refine dr_cons (g_off rfl rfl rfl rfl rfl) ?_ | refine dr_cons (g_on rfl rfl rfl (op_eql rfl rfl rfl)) ?_
  all_goals refine dr_cons (op_pick rfl rfl rfl rfl) ?_
  all_goals refine dr_cons (op_mv rfl (Conv.of rfl) rfl) ?_
  all_goals first | refine dr_lit (t := 97) (b := false) rfl ?_ | refine dr_split (t := 97) rfl (fun h => ?_) (fun h => ?_)
  all_goals first | refine dr_cons (g_off rfl rfl rfl rfl rfl) ?_ | refine dr_cons (g_on rfl rfl rfl (op_fab f28_1 rfl rfl)) ?_
  all_goals first | refine dr_cons (g_off rfl rfl rfl rfl rfl) ?_ | refine dr_cons (g_on rfl rfl rfl (op_ld ty26 rfl rfl rfl)) ?_
  all_goals first | refine dr_cons (g_off rfl rfl rfl rfl rfl) ?_ | refine dr_cons (g_on rfl rfl rfl (op_mv rfl (Conv.of rfl) rfl)) ?_
  all_goals first | refine dr_cons (g_off rfl rfl rfl rfl rfl) ?_ | refine dr_cons (g_on rfl rfl rfl (op_ix sl26 rfl rfl rfl (by omega) hix)) ?_
  all_goals first | refine dr_cons (g_off rfl rfl rfl rfl rfl) ?_ | refine dr_cons (g_on rfl rfl rfl (op_far f38_0 rfl rfl)) ?_
  all_goals first | refine dr_cons (g_off rfl rfl rfl rfl rfl) ?_ | refine dr_cons (g_on rfl rfl rfl (op_ldr ty3 rfl rfl)) ?_
  all_goals first | refine dr_cons (g_off rfl rfl rfl rfl rfl) ?_ | refine dr_cons (g_on rfl rfl rfl (op_fab f25_1 rfl rfl)) ?_
  all_goals first | refine dr_cons (g_off rfl rfl rfl rfl rfl) ?_ | refine dr_cons (g_on rfl rfl rfl (op_ld ty3 rfl rfl rfl)) ?_
  all_goals first | refine dr_cons (g_off rfl rfl rfl rfl rfl) ?_ | refine dr_cons (g_on rfl rfl rfl (op_eql rfl rfl rfl)) ?_
  all_goals refine dr_cons (op_pick rfl rfl rfl rfl) ?_
  all_goals refine dr_cons (op_mv rfl (Conv.of rfl) rfl) ?_
  all_goals first | refine dr_lit (t := 108) (b := false) rfl ?_ | refine dr_split (t := 108) rfl (fun h => ?_) (fun h => ?_)
  all_goals first | refine dr_cons (g_off rfl rfl rfl rfl rfl) ?_ | refine dr_cons (g_on rfl rfl rfl (op_mv rfl (Conv.of rfl) rfl)) ?_
  all_goals first | refine dr_cons (g_off rfl rfl rfl rfl rfl) ?_ | refine dr_cons (g_on rfl rfl rfl (op_fab f25_1 rfl rfl)) ?_
  all_goals first | refine dr_cons (g_off rfl rfl rfl rfl rfl) ?_ | refine dr_cons (g_on rfl rfl rfl (op_ld ty3 rfl rfl rfl)) ?_
  all_goals first | refine dr_cons (g_off rfl rfl rfl rfl rfl) ?_ | refine dr_cons (g_on rfl rfl rfl (op_call fb14 (.cons rfl (Conv.of rfl) (.nil _)) (leader_ct _) (argOk rfl rfl argOk0) rfl rfl)) ?_
  all_goals first | refine dr_cons (g_off rfl rfl rfl rfl rfl) ?_ | refine dr_cons (g_on rfl rfl rfl (op_fab f28_1 rfl rfl)) ?_
  all_goals first | refine dr_cons (g_off rfl rfl rfl rfl rfl) ?_ | refine dr_cons (g_on rfl rfl rfl (op_ld ty26 rfl rfl rfl)) ?_
  all_goals first | refine dr_cons (g_off rfl rfl rfl rfl rfl) ?_ | refine dr_cons (g_on rfl rfl rfl (op_build (.cons f28_0 rfl (Conv.of rfl) (.cons f28_1 rfl (Conv.of rfl) (.nil _))) z28 rfl pl28 rfl)) ?_
  all_goals first | refine dr_cons (g_off rfl rfl rfl rfl rfl) ?_ | refine dr_cons (g_on rfl rfl rfl (op_call fb13 (.cons rfl (Conv.of rfl) (.cons rfl (Conv.of rfl) (.nil _))) (k1) (argOk rfl rfl (argOk rfl rfl argOk0)) rfl rfl)) ?_
  all_goals refine dr_cons (op_pick rfl rfl rfl rfl) ?_
  all_goals refine dr_cons (op_mv rfl (Conv.of rfl) rfl) ?_
  all_goals first | refine dr_lit (t := 118) (b := true) rfl ?_ | refine dr_lit (t := 118) (b := false) rfl ?_
  all_goals first | refine dr_cons (g_off rfl rfl rfl rfl rfl) ?_ | refine dr_cons (g_on rfl rfl rfl (op_mv rfl (Conv.of rfl) rfl)) ?_
  all_goals first | refine dr_cons (g_off rfl rfl rfl rfl rfl) ?_ | refine dr_cons (g_on rfl rfl rfl (op_fab f28_1 rfl rfl)) ?_
  all_goals first | refine dr_cons (g_off rfl rfl rfl rfl rfl) ?_ | refine dr_cons (g_on rfl rfl rfl (op_ld ty26 rfl rfl rfl)) ?_
  all_goals first | refine dr_cons (g_off rfl rfl rfl rfl rfl) ?_ | refine dr_cons (g_on rfl rfl rfl (op_mv rfl (Conv.of rfl) rfl)) ?_
  all_goals first | refine dr_cons (g_off rfl rfl rfl rfl rfl) ?_ | refine dr_cons (g_on rfl rfl rfl (op_slh sl26 rfl rfl rfl (by (try simp); omega))) ?_
  all_goals first | refine dr_cons (g_off rfl rfl rfl rfl rfl) ?_ | refine dr_cons (g_on rfl rfl rfl (op_call fb15 (.cons rfl (Conv.of rfl) (.cons rfl (Conv.of rfl) (.nil _))) (k2) (argOk rfl rfl (argOk rfl rfl argOk0)) rfl rfl)) ?_
  all_goals refine dr_cons (op_pick rfl rfl rfl rfl) ?_
  all_goals refine dr_cons (op_mv rfl (Conv.of rfl) rfl) ?_
  all_goals first | refine dr_lit (t := 126) (b := true) rfl ?_ | refine dr_lit (t := 126) (b := false) rfl ?_
  all_goals first | refine dr_cons (g_off rfl rfl rfl rfl rfl) ?_ | refine dr_cons (g_on rfl rfl rfl (op_mv rfl (Conv.of rfl) rfl)) ?_
  all_goals first | refine dr_cons (g_off rfl rfl rfl rfl rfl) ?_ | refine dr_cons (g_on rfl rfl rfl (op_call fb16 (.cons rfl (Conv.of rfl) (.nil _)) (k3) (argOk rfl rfl argOk0) rfl rfl)) ?_
  all_goals first | refine dr_cons (g_off rfl rfl rfl rfl rfl) ?_ | refine dr_cons (g_on rfl rfl rfl (op_mv rfl (Conv.of rfl) rfl)) ?_
  all_goals first | refine dr_cons (g_off rfl rfl rfl rfl rfl) ?_ | refine dr_cons (g_on rfl rfl rfl (op_eql rfl rfl rfl)) ?_
  all_goals refine dr_cons (op_pick rfl rfl rfl rfl) ?_
  all_goals refine dr_cons (op_mv rfl (Conv.of rfl) rfl) ?_
  all_goals first | refine dr_lit (t := 132) (b := false) rfl ?_ | refine dr_split (t := 132) rfl (fun h => ?_) (fun h => ?_)
  all_goals first | refine dr_cons (g_off rfl rfl rfl rfl rfl) ?_ | refine dr_cons (g_on rfl rfl rfl (op_fab f25_3 rfl rfl)) ?_
  all_goals first | refine dr_cons (g_off rfl rfl rfl rfl rfl) ?_ | refine dr_cons (g_on rfl rfl rfl (op_ld ty23 rfl rfl rfl)) ?_
  all_goals first | refine dr_cons (g_off rfl rfl rfl rfl rfl) ?_ | refine dr_cons (g_on rfl rfl rfl (op_ld ty28 rfl rfl rfl)) ?_
  all_goals first | refine dr_cons (g_off rfl rfl rfl rfl rfl) ?_ | refine dr_cons (g_on rfl rfl rfl (op_call fb13 (.cons rfl (Conv.of rfl) (.cons rfl (Conv.of rfl) (.nil _))) (k4) (argOk rfl rfl (argOk rfl rfl argOk0)) rfl rfl)) ?_
  all_goals refine dr_cons (op_pick rfl rfl rfl rfl) ?_
  all_goals refine dr_cons (op_as rfl (Conv.of rfl) rfl) ?_
  all_goals set_option maxRecDepth 100000 in refine dr_nil mixed rfl ?_
  all_goals refine awp_ret ?_
  all_goals refine finP (.v rfl (Conv.of rfl)) rfl ?_
  all_goals have e1 : ∀ b : Bool, Enc.dis b = b := fun _ => rfl
  all_goals have e2 : ∀ y : Nod, Enc.dis y = y := fun _ => rfl
  all_goals have e3 : ∀ y : Vote, Enc.dis y = y := fun _ => rfl
  all_goals simp_all [FV.av]
end Go.Proofs.Ytmabpmlcclgecaa

/- The law FnHearVote returns true at every input, and leaves its arguments as they were. No condition. -/
set_option linter.unusedVariables false
namespace Go.Proofs.Ytmabpmlcclgecaa.fnHearVote
open Go Go.ChangeShapes Go.WideShapes Go.ChangeAt Go.RowKit
theorem own : ownKnob Try.prog.godebug = none := by kernel_rfl
theorem laidOut : laidOutB Try.prog = true := by kernel_rfl
set_option maxRecDepth 100000 in
theorem lifted (os : Os) (started : os.Started) (H : Type) (enc : TypeId × Value → H) :
    ReturnsInHanded {} Try.checked os 3 .any (Rows.fnHearVoteSpec.pre6 enc Try.prog Try.f3 Rows.fnHearVoteRow.domain false) (Rows.fnHearVoteSpec.post enc Try.prog Try.f3 false true false false) := by
  refine returnsInHanded_of_change_sized (C := Try.checked) own started (by kernel_rfl) Try.func3
    (ChangeSpec.witness6 (enc := enc) (C := Try.checked) false ⟨#[], #[.slice none 0 0], []⟩ 8 (by kernel_rfl) (by kernel_rfl) (by kernel_rfl) (by kernel_rfl)) ?_
  intro W base args ds gs before hval0 hW hcnd hsz0 _
  have hsz : (DataW.weightsEach Try.prog (Try.f3.params.toList ++ Rows.fnHearVoteSpec.plain.varTypes Try.prog) (ds ++ gs)).all (· ≤ reachBytes) = true := hsz0
  have hval : ∀ (j : Nat) t v, Try.f3.params[j]? = some t → args[j]? = some v → Value.okWide Try.prog W .any base t v := hval0
  have hW' := hW
  obtain ⟨p, q, hA0, hV, rfl, hfz, hnd⟩ := hW
  have hA : DataW.TrodAll enc Try.prog W 0 (fun _ => true) true Try.f3.params.toList args.toList ds p := hA0
  rw [Try.params3] at hA hval hsz
  obtain ⟨v0, vs0, d0, ds0, p0, q0, hargs, rfl, rfl, h0, r0⟩ := trodAll_cons hA
  obtain ⟨rfl, rfl, rfl⟩ := trodAll_nil r0
  obtain rfl : args = #[v0] := by cases args; simp_all
  obtain ⟨rfl, rfl⟩ := trodVars_none hV
  obtain ⟨a0, len0, cap0, rfl⟩ := okWide_slice Try.underlying22 (hval 0 22 v0 rfl rfl)
  have k0 := h0
  have lt0 : ∀ x ∈ p0, x.block < W.heap.size := by obtain ⟨m, hm⟩ := k0; exact DataW.trod_lt m _ _ _ hm
  obtain ⟨z0, w0⟩ := Go.Wt.rowOf (fun _ => rfl) Try.underlying22 Try.underlying5 (by kernel_rfl) h0
  have y0 := Go.Wt.lenOf hsz (j := 0) (t := 22) rfl rfl Try.underlying22 Try.underlying5 (by kernel_rfl) (by kernel_rfl) h0
  clear hA0 hval0 hsz0 hsz
  refine (Go.Wt.row1 FnHearVote_ct W w0 y0).mono fun e W' ⟨he, bel⟩ => ?_
  subst he
  exact ⟨_, rfl, _, _, _, [], _, [], hW', trodAll_mk1 (shut_bool Try.underlying4 _), (trodAll_cons_mk (Below.trod laidOut (by kernel_rfl) (of_decide_eq_true (by kernel_rfl)) k0 bel lt0) trodAll_mk0), rfl, bel.frame _, fun h => by cases h⟩
theorem over : Rows.fnHearVoteRow.holds Try.pinned (OpenSpec.ofChange Rows.fnHearVoteSpec) :=
  OpenClaim.holds_of_wide 3 Try.f3 rfl rfl rfl rfl rfl rfl rfl ⟨rfl, rfl, rfl, rfl, rfl⟩ rfl rfl rfl rfl rfl (by kernel_rfl) Try.func3 (by kernel_rfl)
    (of_decide_eq_true (by kernel_rfl)) (by unfold Func.isWrapper; first | (rw [if_pos (by decide +kernel)]; kernel_rfl) | (rw [if_neg (by decide +kernel)]; exact ⟨rfl, rfl⟩))
    (fun os started H enc _ => lifted os started H enc)
end Go.Proofs.Ytmabpmlcclgecaa.fnHearVote
namespace Go.Proofs.Ytmabpmlcclgecaa
theorem fnHearVote_holds : Rows.FnHearVoteSaid := fnHearVote.over
#print axioms fnHearVote_holds
end Go.Proofs.Ytmabpmlcclgecaa
