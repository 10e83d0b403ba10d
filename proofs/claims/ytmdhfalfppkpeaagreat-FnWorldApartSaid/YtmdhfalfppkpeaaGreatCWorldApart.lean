/- The law FnWorldApart returns true at every input, and leaves its arguments as they were. No condition. -/
import Derived.Test.YtmdhfalfppkpeaaGreatM5
import Derived.Test.YtmdhfalfppkpeaaGreatRows
import Derived.WalkKit
import Derived.ProofKit
import Derived.OpenShut
import Derived.ShutString
import Derived.ChangeOld
import Derived.Below
import Derived.SizedLaws
import Derived.KernelRfl
/- A law: what comes to one node does nothing to another one. -/
set_option linter.unusedVariables false
set_option linter.unusedSimpArgs false
namespace Go.Proofs.YtmdhfalfppkpeaaGreat
open Go Go.Wt
set_option maxHeartbeats 4000000 in
theorem FnWorldApart_ct (code : List UInt8) : CtP Tryz.prog 9 [.v code] (.v true) := by
  refine Ct.intro Tryz.func9 rfl rfl ?_
  all_goals refine awp_seq (awp_region (id := 0) ?_)
  all_goals refine awpOps_cons (op_as rfl (Conv.of rfl) rfl) ?_
  all_goals refine awpOps_nil ?_
  all_goals refine awp_seq (awp_seq (awp_region (id := 1) ?_))
  all_goals refine awpOps_cons (op_mv rfl (Conv.of rfl) rfl) ?_
  all_goals refine awpOps_cons (op_len sl22 rfl rfl) ?_
  all_goals refine awpOps_cons (op_gtr rfl rfl rfl) ?_
  all_goals refine awpOps_nil ?_
  refine awp_cond rfl (fun h => ?_) (fun h => ?_)
  · all_goals refine awp_seq (awp_region (id := 2) ?_)
    all_goals refine awpOps_cons (op_as rfl (Conv.of rfl) rfl) ?_
    all_goals refine awpOps_nil ?_
    refine awp_ret ?_
    repeat first | refine rt_seq ?_ | refine rt_block ?_
    exact finP (.v rfl (Conv.of rfl)) rfl rfl
  refine awp_skip ?_
  all_goals refine awp_seq (awp_region (id := 3) ?_)
  all_goals refine awpOps_cons (op_mv rfl (Conv.of rfl) rfl) ?_
  refine awpOps_callE (ι := Wrld × Evt) [] (fun i => .tup [.v i.1, .v i.2]) (fun _ => []) (fun _ => True) rfl fb46 (.cons rfl (Conv.of rfl) (.nil _)) (drawDo_ct code) (fun r h' ⟨w, e, e1, e2⟩ => ⟨(w, e), e1, e2, trivial⟩) ols0 oks0 (argOk' rfl rfl argO0) rfl (fun _ => rfl) (fun _ => oks0) (fun _ o ho => by cases ho) ?_
  rintro ⟨w, e⟩ -
  simp only
  all_goals refine awpOps_cons (op_mv rfl (Conv.of rfl) rfl) ?_
  all_goals refine awpOps_cons (op_ext rfl rfl rfl) ?_
  all_goals refine awpOps_cons (op_ext rfl rfl rfl) ?_
  all_goals refine awpOps_cons (op_alloc (o := 0) z29 rfl rfl) ?_
  all_goals refine awpOps_cons (op_alloc (o := 1) z78 rfl rfl) ?_
  all_goals refine awpOps_cons (op_st ty29 rfl rfl (Conv.of rfl) rfl) ?_
  all_goals refine awpOps_cons (op_st ty78 rfl rfl (Conv.of rfl) rfl) ?_
  all_goals refine awpOps_nil ?_
  all_goals refine awp_seq (awp_region (id := 4) ?_)
  all_goals refine awpOps_cons (op_ld ty29 rfl rfl rfl) ?_
  all_goals refine awpOps_cons (op_ld ty78 rfl rfl rfl) ?_
  all_goals refine awpOps_cons (op_call fb47 (.cons rfl (Conv.of rfl) (.cons rfl (Conv.of rfl) (.nil _))) (worldDo_ct w e) (argOk rfl rfl (argOk rfl rfl argOk0)) rfl rfl) ?_
  all_goals refine awpOps_cons (op_alloc (o := 2) z29 rfl rfl) ?_
  all_goals refine awpOps_cons (op_st ty29 rfl rfl (Conv.of rfl) rfl) ?_
  all_goals refine awpOps_nil ?_
  refine awp_seq (awp_seq_to (s' := mkSt 103 [(3, .box 0 (IsLens.whole Wrld)), (4, .box 1 (IsLens.whole Evt)), (5, .box 2 (IsLens.whole Wrld)), (40, .v (!worldOk w || (decide (e.kind ≠ 3) && decide (e.kind ≠ 2))))] [(0, .cell w), (1, .cell e), (2, .cell (worldDoR w e))]) ?_ ?_)
  · all_goals refine dr_start (id := 5) ?_
    all_goals refine dr_cons (op_ld ty29 rfl rfl rfl) ?_
    all_goals refine dr_cons (op_ld ty29 rfl rfl rfl) ?_
    all_goals refine dr_cons (op_ld ty78 rfl rfl rfl) ?_
    all_goals refine dr_cons (op_call fb48 (.cons rfl (Conv.of rfl) (.cons rfl (Conv.of rfl) (.nil _))) (sWorldDo_ct w e) (argOk rfl rfl (argOk rfl rfl argOk0)) rfl rfl) ?_
    all_goals refine dr_cons (op_call fb18 (.cons rfl (Conv.of rfl) (.cons rfl (Conv.of rfl) (.nil _))) (lwWorld_ct _ _) (argOk rfl rfl (argOk rfl rfl argOk0)) rfl rfl) ?_
    all_goals refine dr_cons (op_not rfl rfl) ?_
    all_goals refine dr_cons (op_mv rfl (Conv.of rfl) rfl) ?_
    all_goals refine dr_split (t := 26) rfl (fun h => ?_) (fun h => ?_)
    all_goals first | refine dr_cons (g_off rfl rfl rfl rfl rfl) ?_ | refine dr_cons (g_on rfl rfl rfl (op_ld ty29 rfl rfl rfl)) ?_
    all_goals first | refine dr_cons (g_off rfl rfl rfl rfl rfl) ?_ | refine dr_cons (g_on rfl rfl rfl (op_call fb29 (.cons rfl (Conv.of rfl) (.nil _)) (sWorldOk_ct _) (argOk rfl rfl argOk0) rfl rfl)) ?_
    all_goals first | refine dr_cons (g_off rfl rfl rfl rfl rfl) ?_ | refine dr_cons (g_on rfl rfl rfl (op_not rfl rfl)) ?_
    all_goals refine dr_cons (op_pick rfl rfl rfl rfl) ?_
    all_goals refine dr_cons (op_mv rfl (Conv.of rfl) rfl) ?_
    all_goals first | refine dr_lit (t := 31) (b := true) rfl ?_ | refine dr_split (t := 31) rfl (fun h => ?_) (fun h => ?_)
    all_goals first | refine dr_cons (g_off rfl rfl rfl rfl rfl) ?_ | refine dr_cons (g_on rfl rfl rfl (op_fab f78_0 rfl rfl)) ?_
    all_goals first | refine dr_cons (g_off rfl rfl rfl rfl rfl) ?_ | refine dr_cons (g_on rfl rfl rfl (op_ld ty3 rfl rfl rfl)) ?_
    all_goals first | refine dr_cons (g_off rfl rfl rfl rfl rfl) ?_ | refine dr_cons (g_on rfl rfl rfl (op_neq rfl rfl rfl)) ?_
    all_goals first | refine dr_cons (g_off rfl rfl rfl rfl rfl) ?_ | refine dr_cons (g_on rfl rfl rfl (op_mv rfl (Conv.of rfl) rfl)) ?_
    all_goals first | refine dr_ulit (t := 35) rfl ?_ | refine dr_split (t := 35) rfl (fun h => ?_) (fun h => ?_)
    all_goals first | refine dr_cons (g_off rfl rfl rfl rfl rfl) ?_ | refine dr_cons (g_und rfl rfl rfl) ?_ | refine dr_cons (g_on rfl rfl rfl (op_fab f78_0 rfl rfl)) ?_
    all_goals first | refine dr_cons (g_off rfl rfl rfl rfl rfl) ?_ | refine dr_cons (g_und rfl rfl rfl) ?_ | refine dr_cons (g_on rfl rfl rfl (op_ld ty3 rfl rfl rfl)) ?_
    all_goals first | refine dr_cons (g_off rfl rfl rfl rfl rfl) ?_ | refine dr_cons (g_und rfl rfl rfl) ?_ | refine dr_cons (g_on rfl rfl rfl (op_neq rfl rfl rfl)) ?_
    all_goals first | refine dr_cons (g_off rfl rfl rfl rfl rfl) ?_ | refine dr_cons (g_on rfl rfl rfl (op_pick rfl rfl rfl rfl)) ?_
    all_goals refine dr_cons (op_pick rfl rfl rfl rfl) ?_
    all_goals refine dr_nil mixed rfl ?_
    all_goals exact Le.mk rfl (tlb rfl rfl rfl (tlb rfl rfl rfl (tlb rfl rfl rfl (tle rfl (by (have e1 : ∀ b : Bool, Enc.dis b = b := fun _ => rfl; have e2 : ∀ y : Wrld, Enc.dis y = y := fun _ => rfl; have e3 : ∀ y : Evt, Enc.dis y = y := fun _ => rfl; show AV.v _ = AV.v _; simp_all; try (rw [Bool.eq_iff_iff]; simp))) rfl tln)))) (olk rfl (by exact obOk_cell) (olk rfl (by exact obOk_cell) (olk rfl (by exact obOk_cell) oln))) noS
  refine awp_cond rfl (fun h => ?_) (fun h => ?_)
  · all_goals refine awp_seq (dr_start (id := 6) ?_)
    all_goals refine dr_cons (op_ld ty29 rfl rfl rfl) ?_
    all_goals refine dr_cons (op_ld ty29 rfl rfl rfl) ?_
    all_goals refine dr_cons (op_ld ty78 rfl rfl rfl) ?_
    all_goals refine dr_cons (op_call fb48 (.cons rfl (Conv.of rfl) (.cons rfl (Conv.of rfl) (.nil _))) (sWorldDo_ct w e) (argOk rfl rfl (argOk rfl rfl argOk0)) rfl rfl) ?_
    all_goals refine dr_cons (op_call fb18 (.cons rfl (Conv.of rfl) (.cons rfl (Conv.of rfl) (.nil _))) (lwWorld_ct _ _) (argOk rfl rfl (argOk rfl rfl argOk0)) rfl rfl) ?_
    all_goals refine dr_cons (op_as rfl (Conv.of rfl) rfl) ?_
    all_goals refine dr_nil mixed rfl ?_
    all_goals refine awp_ret ?_
    all_goals refine finP (.v rfl (Conv.of rfl)) rfl ?_
    all_goals simp_all [FV.av]
  have h' : worldOk w = true ∧ (e.kind = 3 ∨ e.kind = 2) := by
    have : worldOk w = true ∧ (¬ e.kind = 3 → e.kind = 2) := by simpa using h
    exact ⟨this.1, by by_cases q : e.kind = 3 <;> simp_all⟩
  obtain ⟨hwo, hk⟩ := h'
  have hW := worldOk_iff.1 hwo
  have hdo : ∀ e2 : Evt, worldDoR w e2 = doF w e2 := fun e2 => by unfold worldDoR; rw [if_pos hwo]
  refine awp_skip ?_
  have h4 := hW.fx.four
  have hll := hW.fx.ll
  have hep := hW.fx.ep
  have hS := Stp.do hW e
  have hx4 := hS.ok.fx.four
  have hxl := hS.ok.fx.ll
  have hap : ∃ who : Int, (who = if e.kind = 3 then e.b else e.a) ∧ (∀ i : Nat, (i : Int) + 1 ≠ who → (doF w e).nodes[i]? = w.nodes[i]?) ∧ (doF w e).epoch = w.epoch ∧ Sn w (doF w e) (fun u => u.by_ = who) := by
    rcases hk with q | q
    · refine ⟨e.b, by rw [if_pos q], ?_⟩
      have : doF w e = wbringF w e.a e.b := by unfold doF; rw [if_neg (by omega), if_neg (by omega), if_pos q]
      rw [this]; exact bring_apart hW _ _
    · refine ⟨e.a, by rw [if_neg (by omega)], ?_⟩
      have : doF w e = wproposeF w e.a e.pay := by unfold doF; rw [if_neg (by omega), if_pos q]
      rw [this]; exact propose_apart hW _ _
  rw [hdo e]
  generalize doF w e = x at hS hx4 hxl hap
  obtain ⟨who, hwho, a1, a2, a3⟩ := hap
  all_goals refine awp_seq (awp_region (id := 7) ?_)
  all_goals refine awpOps_cons (op_fab f78_1 rfl rfl) ?_
  all_goals refine awpOps_cons (op_ld ty3 rfl rfl rfl) ?_
  all_goals refine awpOps_cons (op_as rfl (Conv.of rfl) rfl) ?_
  all_goals refine awpOps_nil ?_
  all_goals refine awp_seq (awp_seq (awp_region (id := 8) ?_))
  all_goals refine awpOps_cons (op_fab f78_0 rfl rfl) ?_
  all_goals refine awpOps_cons (op_ld ty3 rfl rfl rfl) ?_
  all_goals refine awpOps_cons (op_eql rfl rfl rfl) ?_
  all_goals refine awpOps_nil ?_
  refine awp_to (s' := mkSt 103 [(3, .box 0 (IsLens.whole Wrld)), (5, .box 2 (IsLens.whole Wrld)), (6, .v who)] [(0, .cell w), (2, .cell x)]) ?_ ?_
  · refine awp_cond rfl (fun h => ?_) (fun h => ?_)
    · all_goals refine awp_region (id := 9) ?_
      all_goals refine awpOps_cons (op_fab f78_2 rfl rfl) ?_
      all_goals refine awpOps_cons (op_ld ty3 rfl rfl rfl) ?_
      all_goals refine awpOps_cons (op_as rfl (Conv.of rfl) rfl) ?_
      all_goals refine awpOps_nil ?_
      repeat first | refine nx_seq ?_ | refine nx_block ?_
      all_goals exact Le.mk rfl (tlb rfl rfl rfl (tlb rfl rfl rfl (tle rfl (by (show AV.v _ = AV.v _; rw [hwho, if_pos (of_decide_eq_true h)])) rfl tln))) (olk rfl (by exact obOk_cell) (olk rfl (by exact obOk_cell) oln)) noS
    · refine awp_skip ?_
      repeat first | refine nx_seq ?_ | refine nx_block ?_
      all_goals exact Le.mk rfl (tlb rfl rfl rfl (tlb rfl rfl rfl (tle rfl (by (show AV.v _ = AV.v _; rw [hwho, if_neg (of_decide_eq_false h)])) rfl tln))) (olk rfl (by exact obOk_cell) (olk rfl (by exact obOk_cell) oln)) noS
  clear hwho
  all_goals refine awp_seq (awp_seq (awp_region (id := 10) ?_))
  all_goals refine awpOps_cons (op_as rfl (Conv.of rfl) rfl) ?_
  all_goals refine awpOps_nil ?_
  refine awp_to (s' := mkSt 103 [(3, .box 0 (IsLens.whole Wrld)), (5, .box 2 (IsLens.whole Wrld)), (6, .v who)] [(0, .cell w), (2, .cell x)]) ?_ ?_
  · refine awp_block ?_
    refine awp_loop' (fun n_ s => ∃ (i : Nat), ∃ (hi : n_ + i = 4), s = mkSt 103 [(3, .box 0 (IsLens.whole Wrld)), (5, .box 2 (IsLens.whole Wrld)), (6, .v who), (7, .v (i : Int))] [(0, .cell w), (2, .cell x)]) (4) ⟨0, by omega, rfl⟩ (Le.mk rfl (tlb rfl rfl rfl (tlb rfl rfl rfl (tle rfl (rfl) rfl (tle rfl (rfl) rfl tln)))) (olk rfl (by exact obOk_cell) (olk rfl (by exact obOk_cell) oln)) noS) ?_
    rintro n_ s ⟨i, hi, rfl⟩
    all_goals refine awp_seq (awp_seq (awp_region (id := 11) ?_))
    all_goals refine awpOps_cons (op_mv rfl (Conv.of rfl) rfl) ?_
    all_goals refine awpOps_cons (op_fab f29_1 rfl rfl) ?_
    all_goals refine awpOps_cons (op_ld ty26 rfl rfl rfl) ?_
    all_goals refine awpOps_cons (op_len sl26 rfl rfl) ?_
    all_goals refine awpOps_cons (op_lss rfl rfl rfl) ?_
    all_goals refine awpOps_nil ?_
    refine awp_cond rfl (fun h => ?_) (fun h => ?_)
    · have hi2 : i < w.nodes.length := by simpa using h
      have hx : w.nodes[i]? = some w.nodes[i] := List.getElem?_eq_getElem hi2
      generalize w.nodes[i] = a at hx
      have hy : x.nodes[i]? = some (x.nodes[i]'(by omega)) := List.getElem?_eq_getElem (by omega)
      have hxy : (i : Int) + 1 ≠ who → x.nodes[i]'(by omega) = a := fun q => by
        have := a1 i q
        rw [hy, hx] at this
        injection this
      generalize x.nodes[i]'(by omega) = b at hy hxy
      have kn : (i : Int) + 1 ≠ who → CtP Tryz.prog 40 [.v b, .v a] (.v true) := fun q => by
        have := lwNode_ct b a
        rwa [show decide (b = a) = true from decide_eq_true (hxy q)] at this
      clear hxy
      refine awp_skip ?_
      refine awp_seq (awp_block ?_)
      refine awp_seq_to (s' := mkSt 103 [(3, .box 0 (IsLens.whole Wrld)), (5, .box 2 (IsLens.whole Wrld)), (6, .v who), (7, .v (i : Int)), (77, .v false)] [(0, .cell w), (2, .cell x)]) ?_ ?_
      · all_goals refine dr_start (id := 13) ?_
        all_goals refine dr_cons (op_mv rfl (Conv.of rfl) rfl) ?_
        all_goals refine dr_cons (op_add rfl rfl rfl (by omega)) ?_
        all_goals refine dr_cons (op_mv rfl (Conv.of rfl) rfl) ?_
        all_goals refine dr_cons (op_neq rfl rfl rfl) ?_
        all_goals refine dr_cons (op_mv rfl (Conv.of rfl) rfl) ?_
        all_goals refine dr_split (t := 64) rfl (fun h => ?_) (fun h => ?_)
        all_goals first | refine dr_cons (g_off rfl rfl rfl rfl rfl) ?_ | refine dr_cons (g_on rfl rfl rfl (op_fab f29_1 rfl rfl)) ?_
        all_goals first | refine dr_cons (g_off rfl rfl rfl rfl rfl) ?_ | refine dr_cons (g_on rfl rfl rfl (op_ld ty26 rfl rfl rfl)) ?_
        all_goals first | refine dr_cons (g_off rfl rfl rfl rfl rfl) ?_ | refine dr_cons (g_on rfl rfl rfl (op_mv rfl (Conv.of rfl) rfl)) ?_
        all_goals first | refine dr_cons (g_off rfl rfl rfl rfl rfl) ?_ | refine dr_cons (g_on rfl rfl rfl (op_ix sl26 rfl rfl rfl (by omega) hy)) ?_
        all_goals first | refine dr_cons (g_off rfl rfl rfl rfl rfl) ?_ | refine dr_cons (g_on rfl rfl rfl (op_ldr ty41 rfl rfl)) ?_
        all_goals first | refine dr_cons (g_off rfl rfl rfl rfl rfl) ?_ | refine dr_cons (g_on rfl rfl rfl (op_fab f29_1 rfl rfl)) ?_
        all_goals first | refine dr_cons (g_off rfl rfl rfl rfl rfl) ?_ | refine dr_cons (g_on rfl rfl rfl (op_ld ty26 rfl rfl rfl)) ?_
        all_goals first | refine dr_cons (g_off rfl rfl rfl rfl rfl) ?_ | refine dr_cons (g_on rfl rfl rfl (op_mv rfl (Conv.of rfl) rfl)) ?_
        all_goals first | refine dr_cons (g_off rfl rfl rfl rfl rfl) ?_ | refine dr_cons (g_on rfl rfl rfl (op_ix sl26 rfl rfl rfl (by omega) hx)) ?_
        all_goals first | refine dr_cons (g_off rfl rfl rfl rfl rfl) ?_ | refine dr_cons (g_on rfl rfl rfl (op_ldr ty41 rfl rfl)) ?_
        all_goals first | refine dr_cons (g_off rfl rfl rfl rfl rfl) ?_ | refine dr_cons (g_on rfl rfl rfl (op_call fb40 (.cons rfl (Conv.of rfl) (.cons rfl (Conv.of rfl) (.nil _))) (kn (by simpa using h)) (argOk rfl rfl (argOk rfl rfl argOk0)) rfl rfl)) ?_
        all_goals first | refine dr_cons (g_off rfl rfl rfl rfl rfl) ?_ | refine dr_cons (g_on rfl rfl rfl (op_not rfl rfl)) ?_
        all_goals refine dr_cons (op_pick rfl rfl rfl rfl) ?_
        all_goals refine dr_nil mixed rfl ?_
        all_goals exact Le.mk rfl (tlb rfl rfl rfl (tlb rfl rfl rfl (tle rfl (rfl) rfl (tle rfl (rfl) rfl (tle rfl (by rfl) rfl tln))))) (olk rfl (by exact obOk_cell) (olk rfl (by exact obOk_cell) oln)) noS
      refine awp_cond rfl (fun h => absurd h (by decide)) (fun h => ?_)
      refine awp_skip ?_
      all_goals refine awp_region (id := 12) ?_
      all_goals refine awpOps_cons (op_mv rfl (Conv.of rfl) rfl) ?_
      all_goals refine awpOps_cons (op_add rfl rfl rfl (by omega)) ?_
      all_goals refine awpOps_cons (op_as rfl (Conv.of rfl) rfl) ?_
      all_goals refine awpOps_nil ?_
      repeat first | refine nx_seq ?_ | refine nx_block ?_
      exact ⟨n_ - 1, _, by omega, ⟨i + 1, by omega, rfl⟩, Le.mk rfl (tlb rfl rfl rfl (tlb rfl rfl rfl (tle rfl (rfl) rfl (tle rfl (rfl) rfl tln)))) (olk rfl (by exact obOk_cell) (olk rfl (by exact obOk_cell) oln)) noS⟩
    · refine awp_exit ?_
      repeat refine ex_seq ?_
      refine ex_block ?_
      all_goals exact Le.mk rfl (tlb rfl rfl rfl (tlb rfl rfl rfl (tle rfl (rfl) rfl tln))) (olk rfl (by exact obOk_cell) (olk rfl (by exact obOk_cell) oln)) noS
  · all_goals refine awp_seq (awp_region (id := 15) ?_)
    all_goals refine awpOps_cons (op_fab f29_2 rfl rfl) ?_
    all_goals refine awpOps_cons (op_ld ty27 rfl rfl rfl) ?_
    all_goals refine awpOps_cons (op_len sl27 rfl rfl) ?_
    all_goals refine awpOps_cons (op_as rfl (Conv.of rfl) rfl) ?_
    all_goals refine awpOps_nil ?_
    obtain ⟨v, hv⟩ : ∃ v : Vote, ¬ ((x.log.length : Nat) : Int) = ((w.log.length : Nat) : Int) → x.log[w.log.length]? = some v ∧ v.by_ = who := by
      rcases a3 with r | ⟨v, r, hv⟩
      · exact ⟨.zero, fun q => absurd (by rw [r]) q⟩
      · exact ⟨v, fun _ => ⟨by rw [r]; simp, hv⟩⟩
    all_goals refine awp_seq (awp_region (id := 16) ?_)
    all_goals refine awpOps_cons (op_fab f29_0 rfl rfl) ?_
    all_goals refine awpOps_cons (op_ld ty3 rfl rfl rfl) ?_
    all_goals refine awpOps_cons (op_fab f29_0 rfl rfl) ?_
    all_goals refine awpOps_cons (op_ld ty3 rfl rfl rfl) ?_
    all_goals refine awpOps_cons (op_eql rfl rfl rfl) ?_
    all_goals refine awpOps_cons (op_mv rfl (Conv.of rfl) rfl) ?_
    all_goals refine g_split (t := 86) rfl (fun h => ?_) (fun h => ?_)
    all_goals first | refine awpOps_cons (g_off rfl rfl rfl rfl rfl) ?_ | refine awpOps_cons (g_on rfl rfl rfl (op_fab f29_2 rfl rfl)) ?_
    all_goals first | refine awpOps_cons (g_off rfl rfl rfl rfl rfl) ?_ | refine awpOps_cons (g_on rfl rfl rfl (op_ld ty27 rfl rfl rfl)) ?_
    all_goals first | refine awpOps_cons (g_off rfl rfl rfl rfl rfl) ?_ | refine awpOps_cons (g_on rfl rfl rfl (op_len sl27 rfl rfl)) ?_
    all_goals first | refine awpOps_cons (g_off rfl rfl rfl rfl rfl) ?_ | refine awpOps_cons (g_on rfl rfl rfl (op_mv rfl (Conv.of rfl) rfl)) ?_
    all_goals first | refine awpOps_cons (g_off rfl rfl rfl rfl rfl) ?_ | refine awpOps_cons (g_on rfl rfl rfl (op_eql rfl rfl rfl)) ?_
    all_goals first | refine awpOps_cons (g_off rfl rfl rfl rfl rfl) ?_ | refine awpOps_cons (g_on rfl rfl rfl (op_mv rfl (Conv.of rfl) rfl)) ?_
    all_goals first | refine g_ulit (t := 92) rfl ?_ | refine g_split (t := 92) rfl (fun h => ?_) (fun h => ?_)
    all_goals first | refine awpOps_cons (g_off rfl rfl rfl rfl rfl) ?_ | refine awpOps_cons (g_und rfl rfl rfl) ?_ | refine awpOps_cons (g_on rfl rfl rfl (op_fab f29_2 rfl rfl)) ?_
    all_goals first | refine awpOps_cons (g_off rfl rfl rfl rfl rfl) ?_ | refine awpOps_cons (g_und rfl rfl rfl) ?_ | refine awpOps_cons (g_on rfl rfl rfl (op_ld ty27 rfl rfl rfl)) ?_
    all_goals first | refine awpOps_cons (g_off rfl rfl rfl rfl rfl) ?_ | refine awpOps_cons (g_und rfl rfl rfl) ?_ | refine awpOps_cons (g_on rfl rfl rfl (op_mv rfl (Conv.of rfl) rfl)) ?_
    all_goals first | refine awpOps_cons (g_off rfl rfl rfl rfl rfl) ?_ | refine awpOps_cons (g_und rfl rfl rfl) ?_ | refine awpOps_cons (g_on rfl rfl rfl (op_ix sl27 rfl rfl rfl (by omega) (hv (by exact of_decide_eq_false h)).1)) ?_
    all_goals first | refine awpOps_cons (g_off rfl rfl rfl rfl rfl) ?_ | refine awpOps_cons (g_und rfl rfl rfl) ?_ | refine awpOps_cons (g_on rfl rfl rfl (op_far f48_0 rfl rfl)) ?_
    all_goals first | refine awpOps_cons (g_off rfl rfl rfl rfl rfl) ?_ | refine awpOps_cons (g_und rfl rfl rfl) ?_ | refine awpOps_cons (g_on rfl rfl rfl (op_ldr ty3 rfl rfl)) ?_
    all_goals first | refine awpOps_cons (g_off rfl rfl rfl rfl rfl) ?_ | refine awpOps_cons (g_und rfl rfl rfl) ?_ | refine awpOps_cons (g_on rfl rfl rfl (op_mv rfl (Conv.of rfl) rfl)) ?_
    all_goals first | refine awpOps_cons (g_off rfl rfl rfl rfl rfl) ?_ | refine awpOps_cons (g_und rfl rfl rfl) ?_ | refine awpOps_cons (g_on rfl rfl rfl (op_eql rfl rfl rfl)) ?_
    all_goals first | refine awpOps_cons (g_off rfl rfl rfl rfl rfl) ?_ | refine awpOps_cons (g_on rfl rfl rfl (op_pick rfl rfl rfl rfl)) ?_
    all_goals refine awpOps_cons (op_pick rfl rfl rfl rfl) ?_
    all_goals refine awpOps_cons (op_as rfl (Conv.of rfl) rfl) ?_
    all_goals refine awpOps_nil ?_
    all_goals refine awp_ret ?_
    all_goals refine finP (.v rfl (Conv.of rfl)) rfl ?_
    all_goals (show AV.v _ = AV.v _; simp_all; try omega)
end Go.Proofs.YtmdhfalfppkpeaaGreat

/- The law FnWorldApart returns true at every input, and leaves its arguments as they were. No condition. -/
set_option linter.unusedVariables false
namespace Go.Proofs.YtmdhfalfppkpeaaGreat.fnWorldApart
open Go Go.ChangeShapes Go.WideShapes Go.ChangeAt Go.RowKit
theorem own : ownKnob Tryz.prog.godebug = none := by kernel_rfl
theorem laidOut : laidOutB Tryz.prog = true := by kernel_rfl
set_option maxRecDepth 100000 in
theorem lifted (os : Os) (started : os.Started) (H : Type) (enc : TypeId × Value → H) :
    ReturnsInHanded {} Tryz.checked os 9 .any (Rows.fnWorldApartSpec.pre6 enc Tryz.prog Tryz.f9 Rows.fnWorldApartRow.domain false) (Rows.fnWorldApartSpec.post enc Tryz.prog Tryz.f9 false true false false) := by
  refine returnsInHanded_of_change_sized (C := Tryz.checked) own started (by kernel_rfl) Tryz.func9
    (ChangeSpec.witness6 (enc := enc) (C := Tryz.checked) false ⟨#[], #[.slice none 0 0], []⟩ 8 (by kernel_rfl) (by kernel_rfl) (by kernel_rfl) (by kernel_rfl)) ?_
  intro W base args ds gs before hval0 hW hcnd hsz0 _
  have hsz : (DataW.weightsEach Tryz.prog (Tryz.f9.params.toList ++ Rows.fnWorldApartSpec.plain.varTypes Tryz.prog) (ds ++ gs)).all (· ≤ reachBytes) = true := hsz0
  have hval : ∀ (j : Nat) t v, Tryz.f9.params[j]? = some t → args[j]? = some v → Value.okWide Tryz.prog W .any base t v := hval0
  have hW' := hW
  obtain ⟨p, q, hA0, hV, rfl, hfz, hnd⟩ := hW
  have hA : DataW.TrodAll enc Tryz.prog W 0 (fun _ => true) true Tryz.f9.params.toList args.toList ds p := hA0
  rw [Tryz.params9] at hA hval hsz
  obtain ⟨v0, vs0, d0, ds0, p0, q0, hargs, rfl, rfl, h0, r0⟩ := trodAll_cons hA
  obtain ⟨rfl, rfl, rfl⟩ := trodAll_nil r0
  obtain rfl : args = #[v0] := by cases args; simp_all
  obtain ⟨rfl, rfl⟩ := trodVars_none hV
  obtain ⟨a0, len0, cap0, rfl⟩ := okWide_slice Tryz.underlying22 (hval 0 22 v0 rfl rfl)
  have k0 := h0
  have lt0 : ∀ x ∈ p0, x.block < W.heap.size := by obtain ⟨m, hm⟩ := k0; exact DataW.trod_lt m _ _ _ hm
  obtain ⟨z0, w0⟩ := Go.Wt.rowOf (fun _ => rfl) Tryz.underlying22 Tryz.underlying5 (by kernel_rfl) h0
  have y0 := Go.Wt.lenOf hsz (j := 0) (t := 22) rfl rfl Tryz.underlying22 Tryz.underlying5 (by kernel_rfl) (by kernel_rfl) h0
  clear hA0 hval0 hsz0 hsz
  refine (Go.Wt.row1 FnWorldApart_ct W w0 y0).mono fun e W' ⟨he, bel⟩ => ?_
  subst he
  exact ⟨_, rfl, _, _, _, [], _, [], hW', trodAll_mk1 (shut_bool Tryz.underlying4 _), (trodAll_cons_mk (Below.trod laidOut (by kernel_rfl) (of_decide_eq_true (by kernel_rfl)) k0 bel lt0) trodAll_mk0), rfl, bel.frame _, fun h => by cases h⟩
theorem over : Rows.fnWorldApartRow.holds Tryz.pinned (OpenSpec.ofChange Rows.fnWorldApartSpec) :=
  OpenClaim.holds_of_wide 9 Tryz.f9 rfl rfl rfl rfl rfl rfl rfl ⟨rfl, rfl, rfl, rfl, rfl⟩ rfl rfl rfl rfl rfl (by kernel_rfl) Tryz.func9 (by kernel_rfl)
    (of_decide_eq_true (by kernel_rfl)) (by unfold Func.isWrapper; first | (rw [if_pos (by decide +kernel)]; kernel_rfl) | (rw [if_neg (by decide +kernel)]; exact ⟨rfl, rfl⟩))
    (fun os started H enc _ => lifted os started H enc)
end Go.Proofs.YtmdhfalfppkpeaaGreat.fnWorldApart
namespace Go.Proofs.YtmdhfalfppkpeaaGreat
theorem fnWorldApart_holds : Rows.FnWorldApartSaid := fnWorldApart.over
#print axioms fnWorldApart_holds
end Go.Proofs.YtmdhfalfppkpeaaGreat
