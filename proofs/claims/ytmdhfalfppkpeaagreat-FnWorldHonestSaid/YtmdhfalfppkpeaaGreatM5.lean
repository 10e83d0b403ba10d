/- Part 5 of the proof: texts one behind the other. -/
import Derived.Test.YtmdhfalfppkpeaaGreatM4
import Derived.Below
import Derived.SizedLaws
import Derived.ChangeSlices
/- The reference: draws of events. -/
set_option linter.unusedVariables false
set_option linter.unusedSimpArgs false
namespace Go.Proofs.YtmdhfalfppkpeaaGreat
open Go Go.Wt
set_option maxHeartbeats 4000000 in
theorem l72Event_ct (r : Rd) (w : Wrld) (hw : FineX w) (hp : Far 600000 r) : Ct Tryz.prog 109 [.box 0 (IsLens.whole Rd), .v (fW w)] (obs (ro r w)) (fun r1 h1 => ∃ (e : Evt) (r' : Rd), r1 = .v e ∧ h1 = obs (ro r' w) ∧ r.p ≤ r'.p ∧ r'.p ≤ r.p + 120) := by
  have hep := hw.ep
  have hgll := hw.ll
  have hb8 := pk_bd hp (by omega) 8
  refine Ct.intro Tryz.func109 rfl rfl ?_
  all_goals refine awp_seq (awp_region (id := 0) ?_)
  all_goals refine awpOps_cons (op_box (o := 5) ty29_WrldS rfl (Conv.of rfl) rfl rfl) ?_
  all_goals refine awpOps_cons (op_alloc (o := 6) z78 rfl rfl) ?_
  all_goals refine awpOps_nil ?_
  all_goals refine awp_seq (awp_region (id := 1) ?_)
  all_goals refine awpOps_cons (op_fab f29_2_WrldS rfl rfl) ?_
  all_goals refine awpOps_cons (op_ldl ty27_OListVote rfl rfl rfl) ?_
  all_goals refine awpOps_cons (op_len sl27 rfl rfl) ?_
  all_goals refine awpOps_cons (op_as rfl (Conv.of rfl) rfl) ?_
  all_goals refine awpOps_nil ?_
  refine awp_seq_ex (ι := Rd) (fun i => mkSt 64 [(0, .box 0 (IsLens.whole Rd)), (3, .box 5 (IsLens.whole WrldS)), (4, .box 6 (IsLens.whole Evt))] [(0, .cell i), (1, .arr (w.nodes.map sN)), (5, .cell (fW w)), (6, .cell Evt.zero)]) (fun i => r.p ≤ i.p ∧ i.p ≤ r.p + 1) ?_ ?_
  · all_goals refine awp_seq (awp_region (id := 2) ?_)
    all_goals refine awpOps_cons (op_mv rfl (Conv.of rfl) rfl) ?_
    all_goals refine awpOps_cons (op_gtr rfl rfl rfl) ?_
    all_goals refine awpOps_cons (op_mv rfl (Conv.of rfl) rfl) ?_
    all_goals refine g_split (t := 12) rfl (fun h => ?_) (fun h => ?_)
    all_goals first | refine awpOps_cons (g_off rfl rfl rfl rfl rfl) ?_ | refine awpOps_cons (g_on rfl rfl rfl (op_mv rfl (Conv.of rfl) rfl)) ?_
    all_goals first | refine awpOps_cons (g_off rfl rfl rfl rfl rfl) ?_ | refine awpOps_cons (g_on rfl rfl rfl (op_callO fb54 (.cons rfl (Conv.of rfl) (.cons rfl (Conv.of rfl) (.nil _))) (pick_ct r 8 (by unfold Far at hp; omega)) (olsk rfl ols0) (oksk (by exact obOk_cell) oks0) (oksk (by exact obOk_cell) oks0) rfl (argOb rfl rfl rfl (argOk' rfl rfl argO0)) (fun o ho => by cases ho) rfl)) ?_
    all_goals first | refine awpOps_cons (g_off rfl rfl rfl rfl rfl) ?_ | refine awpOps_cons (g_on rfl rfl rfl (op_lss rfl rfl rfl)) ?_
    all_goals refine awpOps_cons (op_pick rfl rfl rfl rfl) ?_
    all_goals refine awpOps_nil ?_
    · refine awp_cond rfl (fun h2 => ?_) (fun h2 => ?_)
      · have hlg : 0 < w.log.length := by have := of_decide_eq_true h; simpa [fW] using this
        have hf1 : Far 600001 (nx r 1) := hp.nx (by omega) (by omega)
        have hf2 : Far 600002 (nx (nx r 1) 1) := hf1.nx (by omega) (by omega)
        have hf3 : Far 600003 (nx (nx (nx r 1) 1) 1) := hf2.nx (by omega) (by omega)
        have k1 := pk_bd hf1 (by omega) (min (w.log.length : Int) 6)
        have k2 := k1.2 (by omega)
        have k3 := pk_bd hf3 (by omega) (w.log.length : Int)
        have k4 := k3.2 (by omega)
        all_goals refine awp_seq (awp_region (id := 3) ?_)
        all_goals refine awpOps_cons (op_mv rfl (Conv.of rfl) rfl) ?_
        all_goals refine awpOps_cons (op_sub rfl rfl rfl (by (simp only [fW]; omega))) ?_
        all_goals refine awpOps_cons (op_mv rfl (Conv.of rfl) rfl) ?_
        all_goals refine awpOps_cons (op_mv rfl (Conv.of rfl) rfl) ?_
        all_goals refine awpOps_cons (op_min rfl rfl rfl) ?_
        all_goals refine awpOps_cons (op_callO fb54 (.cons rfl (Conv.of rfl) (.cons rfl (Conv.of rfl) (.nil _))) (pick_ct (nx r 1) (min (w.log.length : Int) 6) (by unfold Far at hf1; omega)) (olsk rfl ols0) (oksk (by exact obOk_cell) oks0) (oksk (by exact obOk_cell) oks0) rfl (argOb rfl rfl rfl (argOk' rfl rfl argO0)) (fun o ho => by cases ho) rfl) ?_
        all_goals refine awpOps_cons (op_sub rfl rfl rfl (by (simp only [fW]; omega))) ?_
        all_goals refine awpOps_cons (op_as rfl (Conv.of rfl) rfl) ?_
        all_goals refine awpOps_nil ?_
        refine awp_seq_ex (ι := Int × Rd) (fun i => mkSt 64 [(0, .box 0 (IsLens.whole Rd)), (3, .box 5 (IsLens.whole WrldS)), (4, .box 6 (IsLens.whole Evt)), (6, .v i.1)] [(0, .cell i.2), (1, .arr (w.nodes.map sN)), (5, .cell (fW w)), (6, .cell Evt.zero)]) (fun i => r.p ≤ i.2.p ∧ i.2.p ≤ r.p + 4) ?_ ?_
        · all_goals refine awp_seq (awp_region (id := 4) ?_)
          all_goals refine awpOps_cons (op_mv rfl (Conv.of rfl) rfl) ?_
          all_goals refine awpOps_cons (op_callO fb54 (.cons rfl (Conv.of rfl) (.cons rfl (Conv.of rfl) (.nil _))) (pick_ct (nx (nx r 1) 1) 4 (by unfold Far at hf2; omega)) (olsk rfl ols0) (oksk (by exact obOk_cell) oks0) (oksk (by exact obOk_cell) oks0) rfl (argOb rfl rfl rfl (argOk' rfl rfl argO0)) (fun o ho => by cases ho) rfl) ?_
          all_goals refine awpOps_cons (op_eql rfl rfl rfl) ?_
          all_goals refine awpOps_nil ?_
          refine awp_cond rfl (fun h2 => ?_) (fun h2 => ?_)
          · all_goals refine awp_region (id := 5) ?_
            all_goals refine awpOps_cons (op_mv rfl (Conv.of rfl) rfl) ?_
            all_goals refine awpOps_cons (op_mv rfl (Conv.of rfl) rfl) ?_
            all_goals refine awpOps_cons (op_callO fb54 (.cons rfl (Conv.of rfl) (.cons rfl (Conv.of rfl) (.nil _))) (pick_ct (nx (nx (nx r 1) 1) 1) (w.log.length : Int) (by unfold Far at hf3; omega)) (olsk rfl ols0) (oksk (by exact obOk_cell) oks0) (oksk (by exact obOk_cell) oks0) rfl (argOb rfl rfl rfl (argOk' rfl rfl argO0)) (fun o ho => by cases ho) rfl) ?_
            all_goals refine awpOps_cons (op_as rfl (Conv.of rfl) rfl) ?_
            all_goals refine awpOps_nil ?_
            exact nx_seq ⟨(_, nx (nx (nx (nx r 1) 1) 1) 1), ⟨by simp only [nx]; omega, by simp only [nx]; omega⟩, Le.mk rfl (tlb rfl rfl rfl (tlb rfl rfl rfl (tlb rfl rfl rfl (tle rfl (rfl) rfl tln)))) (olk rfl (by exact obOk_cell) (olk rfl (by exact obOkNs) (olk rfl (by exact obOkS rfl) (olk rfl (by exact obOk_cell) oln)))) (hS_sub (a := ro r w) rfl)⟩
          · refine awp_skip ?_
            exact nx_seq ⟨(_, nx (nx (nx r 1) 1) 1), ⟨by simp only [nx]; omega, by simp only [nx]; omega⟩, Le.mk rfl (tlb rfl rfl rfl (tlb rfl rfl rfl (tlb rfl rfl rfl (tle rfl (rfl) rfl tln)))) (olk rfl (by exact obOk_cell) (olk rfl (by exact obOkNs) (olk rfl (by exact obOkS rfl) (olk rfl (by exact obOk_cell) oln)))) (hS_sub (a := ro r w) rfl)⟩
        · rintro ⟨a, r2⟩ ⟨g1, g2⟩
          simp only at g1 g2 ⊢
          have hf4 : Far 600005 r2 := by unfold Far at hp ⊢; omega
          have k5 := pk_bd hf4 (by omega) 4
          have k6 := k5.2 (by omega)
          all_goals refine awp_seq (awp_region (id := 6) ?_)
          all_goals refine awpOps_cons (op_mv rfl (Conv.of rfl) rfl) ?_
          all_goals refine awpOps_cons (op_mv rfl (Conv.of rfl) rfl) ?_
          all_goals refine awpOps_cons (op_callO fb54 (.cons rfl (Conv.of rfl) (.cons rfl (Conv.of rfl) (.nil _))) (pick_ct r2 4 (by unfold Far at hf4; omega)) (olsk rfl ols0) (oksk (by exact obOk_cell) oks0) (oksk (by exact obOk_cell) oks0) rfl (argOb rfl rfl rfl (argOk' rfl rfl argO0)) (fun o ho => by cases ho) rfl) ?_
          all_goals refine awpOps_cons (op_add rfl rfl rfl (by omega)) ?_
          all_goals refine awpOps_cons (op_build (.cons f78_0 rfl (Conv.of rfl) (.cons f78_1 rfl (Conv.of rfl) (.cons f78_2 rfl (Conv.of rfl) (.nil _)))) z78 rfl pl78 rfl) ?_
          all_goals refine awpOps_cons (op_st ty78 rfl rfl (Conv.of rfl) rfl) ?_
          all_goals refine awpOps_nil ?_
          refine awp_ret ?_
          repeat first | refine rt_seq ?_ | refine rt_block ?_
          refine ⟨_, _, res1 (ol := ro (nx r2 1) w) (.rc ty78 rfl rfl) (fun o ho => by cases ho) (olk rfl obOk_cell (olk rfl obOkNs oln)) (hS_keys rfl), _, nx r2 1, rfl, rfl, by simp only [nx]; omega, by simp only [nx]; omega⟩
      · refine awp_skip ?_
        exact nx_seq ⟨nx r 1, ⟨by simp only [nx]; omega, by simp only [nx]; omega⟩, Le.mk rfl (tlb rfl rfl rfl (tlb rfl rfl rfl (tlb rfl rfl rfl tln))) (olk rfl (by exact obOk_cell) (olk rfl (by exact obOkNs) (olk rfl (by exact obOkS rfl) (olk rfl (by exact obOk_cell) oln)))) (hS_sub (a := ro r w) rfl)⟩
    · refine awp_cond rfl (fun h2 => absurd h2 (by decide)) (fun h2 => ?_)
      refine awp_skip ?_
      exact nx_seq ⟨r, ⟨by omega, by omega⟩, Le.mk rfl (tlb rfl rfl rfl (tlb rfl rfl rfl (tlb rfl rfl rfl tln))) (olk rfl (by exact obOk_cell) (olk rfl (by exact obOkNs) (olk rfl (by exact obOkS rfl) (olk rfl (by exact obOk_cell) oln)))) (hS_sub (a := ro r w) rfl)⟩
  · rintro r2 ⟨g1, g2⟩
    have hf2 : Far 600001 r2 := by unfold Far at hp ⊢; omega
    have k5 := pk_bd hf2 (by omega) 8
    have k6 := k5.2 (by omega)
    have hf3 : Far 600002 (nx r2 1) := hf2.nx (by omega) (by omega)
    have hf4 : Far 600003 (nx (nx r2 1) 1) := hf3.nx (by omega) (by omega)
    have k7 := pk_bd hf3 (by omega) 4
    have k8 := k7.2 (by omega)
    all_goals refine awp_seq (awp_seq (awp_region (id := 7) ?_))
    all_goals refine awpOps_cons (op_mv rfl (Conv.of rfl) rfl) ?_
    all_goals refine awpOps_cons (op_callO fb54 (.cons rfl (Conv.of rfl) (.cons rfl (Conv.of rfl) (.nil _))) (pick_ct r2 8 (by unfold Far at hf2; omega)) (olsk rfl ols0) (oksk (by exact obOk_cell) oks0) (oksk (by exact obOk_cell) oks0) rfl (argOb rfl rfl rfl (argOk' rfl rfl argO0)) (fun o ho => by cases ho) rfl) ?_
    all_goals refine awpOps_nil ?_
    generalize pk r2 8 = k at k5 k6 ⊢
    refine awp_block ?_
    all_goals refine awp_seq (awp_seq (awp_region (id := 8) ?_))
    all_goals refine awpOps_cons (op_eql rfl rfl rfl) ?_
    all_goals refine awpOps_cons (op_as rfl (Conv.of rfl) rfl) ?_
    all_goals refine awpOps_nil ?_
    refine nx_seq ?_
    refine awp_to (s' := mkSt 64 [(0, .box 0 (IsLens.whole Rd)), (3, .box 5 (IsLens.whole WrldS)), (4, .box 6 (IsLens.whole Evt)), (36, .v k), (37, .v (decide (k = 0) || decide (k = 1)))] [(0, .cell (nx r2 1)), (1, .arr (w.nodes.map sN)), (5, .cell (fW w)), (6, .cell Evt.zero)]) ?_ ?_
    · refine awp_cond rfl (fun h2 => ?_) (fun h2 => ?_)
      · refine awp_skip ?_
        all_goals exact Le.mk rfl (tlb rfl rfl rfl (tlb rfl rfl rfl (tlb rfl rfl rfl (tle rfl (rfl) rfl (tle rfl (by (simp_all; try rfl)) rfl tln))))) (olk rfl (by exact obOk_cell) (olk rfl (by exact obOkNs) (olk rfl (by exact obOkS rfl) (olk rfl (by exact obOk_cell) oln)))) (hS_sub (a := ro r w) rfl)
      · all_goals refine awp_region (id := 9) ?_
        all_goals refine awpOps_cons (op_eql rfl rfl rfl) ?_
        all_goals refine awpOps_cons (op_as rfl (Conv.of rfl) rfl) ?_
        all_goals refine awpOps_nil ?_
        all_goals exact Le.mk rfl (tlb rfl rfl rfl (tlb rfl rfl rfl (tlb rfl rfl rfl (tle rfl (rfl) rfl (tle rfl (by (simp_all; try rfl)) rfl tln))))) (olk rfl (by exact obOk_cell) (olk rfl (by exact obOkNs) (olk rfl (by exact obOkS rfl) (olk rfl (by exact obOk_cell) oln)))) (hS_sub (a := ro r w) rfl)
    · refine awp_cond rfl (fun h2 => ?_) (fun h2 => ?_)
      · all_goals refine awp_seq (awp_region (id := 10) ?_)
        all_goals refine awpOps_cons (op_build (.cons f78_0 rfl (Conv.of rfl) (.nil _)) z78 rfl pl78 rfl) ?_
        all_goals refine awpOps_cons (op_st ty78 rfl rfl (Conv.of rfl) rfl) ?_
        all_goals refine awpOps_nil ?_
        refine awp_ret ?_
        repeat first | refine rt_seq ?_ | refine rt_block ?_
        refine ⟨_, _, res1 (ol := ro (nx r2 1) w) (.rc ty78 rfl rfl) (fun o ho => by cases ho) (olk rfl obOk_cell (olk rfl obOkNs oln)) (hS_keys rfl), _, nx r2 1, rfl, rfl, by simp only [nx]; omega, by simp only [nx]; omega⟩
      · all_goals refine awp_seq (awp_seq (awp_region (id := 11) ?_))
        all_goals refine awpOps_cons (op_eql rfl rfl rfl) ?_
        all_goals refine awpOps_cons (op_as rfl (Conv.of rfl) rfl) ?_
        all_goals refine awpOps_nil ?_
        refine nx_seq ?_
        refine awp_to (s' := mkSt 64 [(0, .box 0 (IsLens.whole Rd)), (3, .box 5 (IsLens.whole WrldS)), (4, .box 6 (IsLens.whole Evt)), (36, .v k), (41, .v (decide (k = 2) || (decide (k = 3) || decide (k = 4))))] [(0, .cell (nx r2 1)), (1, .arr (w.nodes.map sN)), (5, .cell (fW w)), (6, .cell Evt.zero)]) ?_ ?_
        · refine awp_cond rfl (fun h3 => ?_) (fun h3 => ?_)
          · refine awp_skip ?_
            all_goals exact Le.mk rfl (tlb rfl rfl rfl (tlb rfl rfl rfl (tlb rfl rfl rfl (tle rfl (rfl) rfl (tle rfl (by (simp_all; try rfl)) rfl tln))))) (olk rfl (by exact obOk_cell) (olk rfl (by exact obOkNs) (olk rfl (by exact obOkS rfl) (olk rfl (by exact obOk_cell) oln)))) (hS_sub (a := ro r w) rfl)
          · all_goals refine awp_seq (awp_region (id := 12) ?_)
            all_goals refine awpOps_cons (op_eql rfl rfl rfl) ?_
            all_goals refine awpOps_cons (op_as rfl (Conv.of rfl) rfl) ?_
            all_goals refine awpOps_nil ?_
            refine awp_cond rfl (fun h4 => ?_) (fun h4 => ?_)
            · refine awp_skip ?_
              all_goals exact Le.mk rfl (tlb rfl rfl rfl (tlb rfl rfl rfl (tlb rfl rfl rfl (tle rfl (rfl) rfl (tle rfl (by (simp_all; try rfl)) rfl tln))))) (olk rfl (by exact obOk_cell) (olk rfl (by exact obOkNs) (olk rfl (by exact obOkS rfl) (olk rfl (by exact obOk_cell) oln)))) (hS_sub (a := ro r w) rfl)
            · all_goals refine awp_region (id := 13) ?_
              all_goals refine awpOps_cons (op_eql rfl rfl rfl) ?_
              all_goals refine awpOps_cons (op_as rfl (Conv.of rfl) rfl) ?_
              all_goals refine awpOps_nil ?_
              all_goals exact Le.mk rfl (tlb rfl rfl rfl (tlb rfl rfl rfl (tlb rfl rfl rfl (tle rfl (rfl) rfl (tle rfl (by (simp_all; try rfl)) rfl tln))))) (olk rfl (by exact obOk_cell) (olk rfl (by exact obOkNs) (olk rfl (by exact obOkS rfl) (olk rfl (by exact obOk_cell) oln)))) (hS_sub (a := ro r w) rfl)
        · refine awp_cond rfl (fun h3 => ?_) (fun h3 => ?_)
          · all_goals refine awp_seq (awp_region (id := 14) ?_)
            all_goals refine awpOps_cons (op_fab f29_0_WrldS rfl rfl) ?_
            all_goals refine awpOps_cons (op_ld ty3 rfl rfl rfl) ?_
            all_goals refine awpOps_cons (op_max rfl rfl rfl) ?_
            all_goals refine awpOps_cons (op_call fb79 (.cons rfl (Conv.of rfl) (.nil _)) (l3Leader_ct _ (by show -1000 ≤ max w.epoch 1 ∧ max w.epoch 1 ≤ 1000000; omega)) (argOk rfl rfl argOk0) rfl rfl) ?_
            all_goals refine awpOps_cons (op_mv rfl (Conv.of rfl) rfl) ?_
            all_goals refine awpOps_cons (op_callO fb87 (.cons rfl (Conv.of rfl) (.nil _)) (l71Pay_ct (nx r2 1) (hf3.weak (by omega))) (olsk rfl ols0) (oksk (by exact obOk_cell) oks0) (oksk (by exact obOk_cell) oks0) rfl (argOb rfl rfl rfl argO0) (fun o ho => by cases ho) rfl) ?_
            all_goals refine awpOps_cons (op_build (.cons f78_0 rfl (Conv.of rfl) (.cons f78_1 rfl (Conv.of rfl) (.cons f78_3 rfl (Conv.of rfl) (.nil _)))) z78 rfl pl78 rfl) ?_
            all_goals refine awpOps_cons (op_st ty78 rfl rfl (Conv.of rfl) rfl) ?_
            all_goals refine awpOps_nil ?_
            refine awp_ret ?_
            repeat first | refine rt_seq ?_ | refine rt_block ?_
            refine ⟨_, _, res1 (ol := ro (nx (nx r2 1) 3) w) (.rc ty78 rfl rfl) (fun o ho => by cases ho) (olk rfl obOk_cell (olk rfl obOkNs oln)) (hS_keys rfl), _, nx (nx r2 1) 3, rfl, rfl, by simp only [nx]; omega, by simp only [nx]; omega⟩
          · all_goals refine awp_seq (awp_region (id := 15) ?_)
            all_goals refine awpOps_cons (op_eql rfl rfl rfl) ?_
            all_goals refine awpOps_cons (op_as rfl (Conv.of rfl) rfl) ?_
            all_goals refine awpOps_nil ?_
            refine awp_cond rfl (fun h4 => ?_) (fun h4 => ?_)
            · all_goals refine awp_seq (awp_region (id := 16) ?_)
              all_goals refine awpOps_cons (op_mv rfl (Conv.of rfl) rfl) ?_
              all_goals refine awpOps_cons (op_callO fb54 (.cons rfl (Conv.of rfl) (.cons rfl (Conv.of rfl) (.nil _))) (pick_ct (nx r2 1) 4 (by unfold Far at hf3; omega)) (olsk rfl ols0) (oksk (by exact obOk_cell) oks0) (oksk (by exact obOk_cell) oks0) rfl (argOb rfl rfl rfl (argOk' rfl rfl argO0)) (fun o ho => by cases ho) rfl) ?_
              all_goals refine awpOps_cons (op_add rfl rfl rfl (by omega)) ?_
              all_goals refine awpOps_cons (op_mv rfl (Conv.of rfl) rfl) ?_
              all_goals refine awpOps_cons (op_callO fb87 (.cons rfl (Conv.of rfl) (.nil _)) (l71Pay_ct (nx (nx r2 1) 1) (hf4.weak (by omega))) (olsk rfl ols0) (oksk (by exact obOk_cell) oks0) (oksk (by exact obOk_cell) oks0) rfl (argOb rfl rfl rfl argO0) (fun o ho => by cases ho) rfl) ?_
              all_goals refine awpOps_cons (op_build (.cons f78_0 rfl (Conv.of rfl) (.cons f78_1 rfl (Conv.of rfl) (.cons f78_3 rfl (Conv.of rfl) (.nil _)))) z78 rfl pl78 rfl) ?_
              all_goals refine awpOps_cons (op_st ty78 rfl rfl (Conv.of rfl) rfl) ?_
              all_goals refine awpOps_nil ?_
              refine awp_ret ?_
              repeat first | refine rt_seq ?_ | refine rt_block ?_
              refine ⟨_, _, res1 (ol := ro (nx (nx (nx r2 1) 1) 3) w) (.rc ty78 rfl rfl) (fun o ho => by cases ho) (olk rfl obOk_cell (olk rfl obOkNs oln)) (hS_keys rfl), _, nx (nx (nx r2 1) 1) 3, rfl, rfl, by simp only [nx]; omega, by simp only [nx]; omega⟩
            · refine awp_skip ?_
              repeat first | refine nx_seq ?_ | refine nx_block ?_
              all_goals refine awp_seq (awp_region (id := 17) ?_)
              all_goals refine awpOps_cons (op_mv rfl (Conv.of rfl) rfl) ?_
              all_goals refine awpOps_cons (op_ldd ty29_WrldS rfl rfl rfl) ?_
              refine awpOps_callE (ι := Vote × Rd) (ro (nx r2 1) w) (fun i => .v i.1) (fun i => ro i.2 w) (fun i => i.1.chain.length ≤ 100 ∧ (nx r2 1).p ≤ i.2.p ∧ i.2.p ≤ (nx r2 1).p + 100) rfl fb154 (.cons rfl (Conv.of rfl) (.cons rfl (Conv.of rfl) (.nil _))) (l72Forge_ct (nx r2 1) w hw (hf3.weak (by omega))) (fun r h' ⟨v, r', e1, e2, e3, e4, e5⟩ => ⟨(v, r'), e1, e2, e3, e4, e5⟩) (olsk rfl (olsk rfl ols0)) (oksk obOk_cell (oksk obOkNs oks0)) (argOb rfl rfl rfl (argOb rfl rfl rfl argO0)) rfl (fun i => rfl) (fun i => oksk obOk_cell (oksk obOkNs oks0)) (fun i o ho => by cases ho) ?_
              rintro ⟨v, r3⟩ ⟨q1, q2, q3⟩
              simp only [nx] at q1 q2 q3 ⊢
              all_goals refine awpOps_cons (op_build (.cons f78_0 rfl (Conv.of rfl) (.cons f78_4 rfl (Conv.of rfl) (.nil _))) z78 rfl pl78 rfl) ?_
              all_goals refine awpOps_cons (op_st ty78 rfl rfl (Conv.of rfl) rfl) ?_
              all_goals refine awpOps_nil ?_
              refine awp_ret ?_
              repeat first | refine rt_seq ?_ | refine rt_block ?_
              refine ⟨_, _, res1 (ol := ro r3 w) (.rc ty78 rfl rfl) (fun o ho => by cases ho) (olk rfl obOk_cell (olk rfl obOkNs oln)) (hS_keys rfl), _, r3, rfl, rfl, by omega, by omega⟩
end Go.Proofs.YtmdhfalfppkpeaaGreat

/- The reference: draws of plays. -/
set_option linter.unusedVariables false
set_option linter.unusedSimpArgs false
namespace Go.Proofs.YtmdhfalfppkpeaaGreat
open Go Go.Wt
set_option maxHeartbeats 8000000 in
theorem l72Play_ct (r : Rd) (hp : Far 1000 r) : Ct Tryz.prog 53 [.box 0 (IsLens.whole Rd)] (obs [(0, .cell r)]) (fun r1 h1 => ∃ (bad : Int) (evs : List Evt) (w : Wrld) (r' : Rd), r1 = .tup [.v bad, .v (OList.mk evs true), .v (sW w)] ∧ h1 = obs (ro r' w) ∧ evs.length ≤ 100 ∧ within bad 0 4 = true ∧ FineX w ∧ Far 20000 r') := by
  have hq0 := pk_bd hp (by omega) 5
  have hq0' := hq0.2 (by omega)
  have hf1 : Far 1001 (nx r 1) := hp.nx (by omega) (by omega)
  have hq1 := pk_bd hf1 (by omega) 5
  have hq1' := hq1.2 (by omega)
  have hf2 : Far 1002 (nx (nx r 1) 1) := hf1.nx (by omega) (by omega)
  refine Ct.intro Tryz.func53 rfl rfl ?_
  all_goals refine awp_seq (awp_region (id := 0) ?_)
  all_goals refine awpOps_cons (op_as rfl (Conv.of rfl) rfl) ?_
  all_goals refine awpOps_cons (op_as rfl (Conv.of rfl) rfl) ?_
  all_goals refine awpOps_cons (op_alloc (o := 5) z29_WrldS rfl rfl) ?_
  all_goals refine awpOps_nil ?_
  all_goals refine awp_seq (awp_region (id := 1) ?_)
  all_goals refine awpOps_cons (op_mv rfl (Conv.of rfl) rfl) ?_
  all_goals refine awpOps_cons (op_callO fb54 (.cons rfl (Conv.of rfl) (.cons rfl (Conv.of rfl) (.nil _))) (pick_ct r 5 (by unfold Far at hp; omega)) (olsk rfl ols0) (oksk (by exact obOk_cell) oks0) (oksk (by exact obOk_cell) oks0) rfl (argOb rfl rfl rfl (argOk' rfl rfl argO0)) (fun o ho => by cases ho) rfl) ?_
  all_goals refine awpOps_cons (op_as rfl (Conv.of rfl) rfl) ?_
  all_goals refine awpOps_nil ?_
  have hb : within (pk r 5) 0 4 = true := by simp [within]; omega
  generalize pk r 5 = bad at hq0 hq0' hb ⊢
  all_goals refine awp_seq (awp_region (id := 2) ?_)
  all_goals refine awpOps_cons (op_mv rfl (Conv.of rfl) rfl) ?_
  refine awpOps_callO [] rfl fb57 (.cons rfl (Conv.of rfl) (.nil _)) (sWorldNew_w bad hb) ols0 oks0 (argOk' rfl rfl argO0) rfl ?_
  rintro r_ h' ⟨rfl, rfl⟩
  refine ⟨so (newW bad), rfl, (fun o ho => by cases ho), fun o ho _ => ?_, oksk obOkNs oks0, fun o ho => ?_, ?_⟩
  · have : o = 1 := by simpa [keys, lk0] using ho
    subst this; rfl
  · have : o = 1 := by simpa using (show o ∈ [1] from ho)
    subst this; rfl
  all_goals refine awpOps_cons (op_mvo rfl rfl rfl rfl) ?_
  all_goals refine awpOps_cons (op_extm rfl rfl rfl rfl) ?_
  all_goals refine awpOps_cons (op_ext rfl rfl rfl) ?_
  all_goals refine awpOps_cons (op_alloc (o := 6) z29_WrldS rfl rfl) ?_
  all_goals refine awpOps_cons (op_stm ty29_WrldS rfl rfl rfl) ?_
  all_goals refine awpOps_cons (op_as rfl (Conv.of rfl) rfl) ?_
  all_goals refine awpOps_nil ?_
  all_goals refine awp_seq (awp_region (id := 3) ?_)
  all_goals refine awpOps_cons (op_bsl sl23 z78 (.nil _) rfl (by decide) rfl) ?_
  all_goals refine awpOps_cons (op_asl rfl rfl rfl rfl) ?_
  all_goals refine awpOps_nil ?_
  all_goals refine awp_seq (awp_seq (awp_region (id := 4) ?_))
  all_goals refine awpOps_cons (op_mv rfl (Conv.of rfl) rfl) ?_
  all_goals refine awpOps_cons (op_callO fb54 (.cons rfl (Conv.of rfl) (.cons rfl (Conv.of rfl) (.nil _))) (pick_ct (nx r 1) 5 (by unfold Far at hf1; omega)) (olsk rfl ols0) (oksk (by exact obOk_cell) oks0) (oksk (by exact obOk_cell) oks0) rfl (argOb rfl rfl rfl (argOk' rfl rfl argO0)) (fun o ho => by cases ho) rfl) ?_
  all_goals refine awpOps_cons (op_as rfl (Conv.of rfl) rfl) ?_
  all_goals refine awpOps_nil ?_
  generalize pk (nx r 1) 5 = n0 at hq1 hq1' ⊢
  generalize nx (nx r 1) 1 = r0 at hf2 ⊢
  refine awp_block ?_
  refine awp_loop' (fun n_ s => ∃ (k : Nat), ∃ (evs : List Evt), ∃ (w : Wrld), ∃ (r1 : Rd), ∃ (hk : n_ + k = n0.toNat), ∃ (hw : FineX w), ∃ (he : evs.length ≤ 10 * k), ∃ (hf : Far (1002 + 3 * (k : Int)) r1), s = mkSt 120 [(0, .box 0 (IsLens.whole Rd)), (4, .box 5 (IsLens.whole WrldS)), (5, .v bad), (6, .box 6 (IsLens.whole WrldS)), (8, .v (OList.mk evs true)), (9, .v (n0 - (k : Int)))] [(0, .cell r1), (1, .arr (Wrld.nodes w |>.map sN)), (5, .cell WrldS.zero), (6, .cell (sW w))]) (n0.toNat) ⟨0, [], newW bad, r0, by omega, newW_ok bad, by simp, by simpa using hf2, rfl⟩ (Le.mk rfl (tlb rfl rfl rfl (tlb rfl rfl rfl (tle rfl (rfl) rfl (tlb rfl rfl rfl (tle rfl (rfl) rfl (tle rfl (by (show AV.v _ = AV.v _; congr 1; omega)) rfl tln)))))) (olk rfl (by exact obOk_cell) (olk rfl (by exact obOkNs) (olk rfl (by exact obOkS0) (olk rfl (by exact obOkS rfl) oln)))) (hS_sub (a := [(0, .cell r)]) rfl)) ?_
  rintro n_ s ⟨k, evs, w, r1, hk, hw, he, hf, rfl⟩
  have hk4 : k ≤ 4 := by omega
  have hep := hw.ep
  all_goals refine awp_seq (awp_seq (awp_region (id := 5) ?_))
  all_goals refine awpOps_cons (op_mv rfl (Conv.of rfl) rfl) ?_
  all_goals refine awpOps_cons (op_gtr rfl rfl rfl) ?_
  all_goals refine awpOps_nil ?_
  refine awp_cond rfl (fun h => ?_) (fun h => ?_)
  · have hlt : (k : Int) < n0 := by have := of_decide_eq_true h; omega
    refine awp_skip ?_
    refine awp_seq (awp_block ?_)
    all_goals refine awp_seq (awp_seq (awp_region (id := 7) ?_))
    all_goals refine awpOps_cons (op_build (.cons f78_0 rfl (Conv.of rfl) (.nil _)) z78 rfl pl78 rfl) ?_
    all_goals refine awpOps_cons (op_fab f29_0_WrldS rfl rfl) ?_
    all_goals refine awpOps_cons (op_ld ty3 rfl rfl rfl) ?_
    all_goals refine awpOps_cons (op_add rfl rfl rfl (by (simp only [sW]; omega))) ?_
    all_goals refine awpOps_cons (op_call fb79 (.cons rfl (Conv.of rfl) (.nil _)) (l3Leader_ct _ (by simp only [sW]; omega)) (argOk rfl rfl argOk0) rfl rfl) ?_
    all_goals refine awpOps_cons (op_mv rfl (Conv.of rfl) rfl) ?_
    all_goals refine awpOps_cons (op_callO fb87 (.cons rfl (Conv.of rfl) (.nil _)) (l71Pay_ct r1 (hf.weak (by omega))) (olsk rfl ols0) (oksk (by exact obOk_cell) oks0) (oksk (by exact obOk_cell) oks0) rfl (argOb rfl rfl rfl argO0) (fun o ho => by cases ho) rfl) ?_
    all_goals refine awpOps_cons (op_build (.cons f78_0 rfl (Conv.of rfl) (.cons f78_1 rfl (Conv.of rfl) (.cons f78_3 rfl (Conv.of rfl) (.nil _)))) z78 rfl pl78 rfl) ?_
    all_goals refine awpOps_cons (op_bsl sl23 z78 (.cons rfl (Conv.of rfl) (.cons rfl (Conv.of rfl) (.nil _))) rfl (by decide) rfl) ?_
    all_goals refine awpOps_cons (op_len sl23 rfl rfl) ?_
    all_goals refine awpOps_cons (op_mv rfl (Conv.of rfl) rfl) ?_
    all_goals refine awpOps_nil ?_
    have hf3 : Far (1005 + 3 * (k : Int)) (nx r1 3) := hf.nx (by omega) (by omega)
    generalize hes : ([{ kind := 1, a := 0, b := 0, pay := Pay.zero, vote := Vote.zero }, { kind := 2, a := leadS ((sW w).epoch + 1), b := 0, pay := payV r1, vote := Vote.zero }] : List Evt) = es
    have hes2 : es.length = 2 := by rw [← hes]; rfl
    generalize nx r1 3 = r2 at hf3 ⊢
    refine nx_seq (awp_to_ex (ι := List Evt × Wrld) (fun i => mkSt 120 [(0, .box 0 (IsLens.whole Rd)), (4, .box 5 (IsLens.whole WrldS)), (5, .v bad), (6, .box 6 (IsLens.whole WrldS)), (8, .v (OList.mk i.1 true)), (9, .v (n0 - (k : Int)))] [(0, .cell r2), (1, .arr (Wrld.nodes i.2 |>.map sN)), (5, .cell WrldS.zero), (6, .cell (sW i.2))]) (fun i => FineX i.2 ∧ i.1.length ≤ 10 * k + 2) ?_ ?_)
    · refine awp_block ?_
      refine awp_loop' (fun n_ s => ∃ (j : Nat), ∃ (evs2 : List Evt), ∃ (w2 : Wrld), ∃ (hj : n_ + j = 2), ∃ (hw2 : FineX w2), ∃ (he2 : evs2.length ≤ 10 * k + j), s = mkSt 120 [(0, .box 0 (IsLens.whole Rd)), (4, .box 5 (IsLens.whole WrldS)), (5, .v bad), (6, .box 6 (IsLens.whole WrldS)), (8, .v (OList.mk evs2 true)), (9, .v (n0 - (k : Int))), (39, .v (OList.mk es true)), (40, .v (2 : Int)), (41, .v (j : Int))] [(0, .cell r2), (1, .arr (Wrld.nodes w2 |>.map sN)), (5, .cell WrldS.zero), (6, .cell (sW w2))]) (2) ⟨0, evs, w, by omega, hw, by omega, rfl⟩ (Le.mk rfl (tlb rfl rfl rfl (tlb rfl rfl rfl (tle rfl (rfl) rfl (tlb rfl rfl rfl (tle rfl (rfl) rfl (tle rfl (rfl) rfl (tle rfl (by (rw [← hes]; rfl)) rfl (tle rfl (rfl) rfl (tle rfl (rfl) rfl tln))))))))) (olk rfl (by exact obOk_cell) (olk rfl (by exact obOkNs) (olk rfl (by exact obOkS0) (olk rfl (by exact obOkS rfl) oln)))) (hS_sub (a := [(0, .cell r)]) rfl)) ?_
      rintro n_ s ⟨j, evs2, w2, hj, hw2, he2, rfl⟩
      all_goals refine awp_seq (awp_region (id := 8) ?_)
      all_goals refine awpOps_cons (op_lss rfl rfl rfl) ?_
      all_goals refine awpOps_nil ?_
      refine awp_seq (awp_cond rfl (fun h2 => ?_) (fun h2 => ?_))
      · have hj2 : j < 2 := by have := of_decide_eq_true h2; omega
        have hx : es[j]? = some (es[j]'(by omega)) := List.getElem?_eq_getElem (by omega)
        generalize hee : es[j]'(by omega) = e at hx
        refine awp_skip ?_
        refine awp_seq (awp_block ?_)
        all_goals refine awp_seq (awp_region (id := 9) ?_)
        all_goals refine awpOps_cons (op_ix sl23 rfl rfl rfl (by omega) hx) ?_
        all_goals refine awpOps_cons (op_ldr ty78 rfl rfl) ?_
        all_goals refine awpOps_cons (op_alloc (o := 7) z78 rfl rfl) ?_
        all_goals refine awpOps_cons (op_st ty78 rfl rfl (Conv.of rfl) rfl) ?_
        all_goals refine awpOps_nil ?_
        all_goals refine awp_seq (awp_region (id := 10) ?_)
        all_goals refine awpOps_cons (op_mvl rfl rfl rfl rfl) ?_
        all_goals refine awpOps_cons (op_ld ty78 rfl rfl rfl) ?_
        all_goals refine awpOps_cons (op_bsl sl23 z78 (.cons rfl (Conv.of rfl) (.nil _)) rfl (by decide) rfl) ?_
        all_goals refine awpOps_cons (op_app sl23 z78 ul23 rfl rfl rfl (by (simp; omega)) (by (simp; omega)) rfl rfl) ?_
        all_goals refine awpOps_cons (op_asl rfl rfl rfl rfl) ?_
        all_goals refine awpOps_nil ?_
        all_goals refine awp_region (id := 11) ?_
        all_goals refine awpOps_cons (op_ldm ty29_WrldS rfl rfl rfl) ?_
        all_goals refine awpOps_cons (op_ld ty78 rfl rfl rfl) ?_
        all_goals refine awpOps_cons (op_callM (s := 49) (pre := []) fb58 (.nil _) rfl (.cons rfl (Conv.of rfl) (.nil _)) (l21Do_ct w2 _ hw2) (olsk rfl ols0) (oksk (by exact obOkNs) oks0) (oksk (by exact obOkNs) oks0) rfl argO0 (argOk' rfl rfl argO0) (inOne rfl) (inOne rfl) rfl) ?_
        all_goals refine awpOps_cons (op_stm ty29_WrldS rfl rfl rfl) ?_
        all_goals refine awpOps_nil ?_
        all_goals refine awp_region (id := 12) ?_
        all_goals refine awpOps_cons (op_add rfl rfl rfl (by omega)) ?_
        all_goals refine awpOps_cons (op_mv rfl (Conv.of rfl) rfl) ?_
        all_goals refine awpOps_nil ?_
        repeat first | refine nx_seq ?_ | refine nx_block ?_
        exact ⟨n_ - 1, _, by omega, ⟨j + 1, evs2 ++ [e], doF w2 e, by omega, doF_ok _ hw2, by simp; omega, rfl⟩, Le.mk rfl (tlb rfl rfl rfl (tlb rfl rfl rfl (tle rfl (rfl) rfl (tlb rfl rfl rfl (tle rfl (rfl) rfl (tle rfl (rfl) rfl (tle rfl (by rfl) rfl (tle rfl (rfl) rfl (tle rfl (rfl) rfl tln))))))))) (olk rfl (by exact obOk_cell) (olk rfl (by exact obOkNs) (olk rfl (by exact obOkS0) (olk rfl (by exact obOkS rfl) oln)))) (hS_sub (a := [(0, .cell r)]) rfl)⟩
      · refine awp_exit ?_
        repeat refine ex_seq ?_
        refine ex_block ?_
        exact nx_seq ⟨(evs2, w2), ⟨hw2, by simp only; omega⟩, Le.mk rfl (tlb rfl rfl rfl (tlb rfl rfl rfl (tle rfl (rfl) rfl (tlb rfl rfl rfl (tle rfl (rfl) rfl (tle rfl (rfl) rfl tln)))))) (olk rfl (by exact obOk_cell) (olk rfl (by exact obOkNs) (olk rfl (by exact obOkS0) (olk rfl (by exact obOkS rfl) oln)))) (hS_sub (a := [(0, .cell r)]) rfl)⟩
    rintro ⟨evs3, w3⟩ ⟨hw3, he3⟩
    simp only at hw3 he3 ⊢
    refine awp_seq_ex (ι := List Evt × Wrld) (fun i => mkSt 120 [(0, .box 0 (IsLens.whole Rd)), (4, .box 5 (IsLens.whole WrldS)), (5, .v bad), (6, .box 6 (IsLens.whole WrldS)), (8, .v (OList.mk i.1 true)), (9, .v (n0 - (k : Int)))] [(0, .cell r2), (1, .arr (Wrld.nodes i.2 |>.map sN)), (5, .cell WrldS.zero), (6, .cell (sW i.2))]) (fun i => FineX i.2 ∧ i.1.length ≤ 10 * k + 6) ?_ ?_
    · all_goals refine awp_seq (awp_region (id := 13) ?_)
      all_goals refine awpOps_cons (op_as rfl (Conv.of rfl) rfl) ?_
      all_goals refine awpOps_nil ?_
      refine awp_block ?_
      refine awp_loop' (fun n_ s => ∃ (j : Nat), ∃ (evs4 : List Evt), ∃ (w4 : Wrld), ∃ (hj : n_ + j = 4), ∃ (hw4 : FineX w4), ∃ (he4 : evs4.length ≤ 10 * k + 2 + j), s = mkSt 120 [(0, .box 0 (IsLens.whole Rd)), (4, .box 5 (IsLens.whole WrldS)), (5, .v bad), (6, .box 6 (IsLens.whole WrldS)), (8, .v (OList.mk evs4 true)), (9, .v (n0 - (k : Int))), (12, .v ((j : Int) + 1))] [(0, .cell r2), (1, .arr (Wrld.nodes w4 |>.map sN)), (5, .cell WrldS.zero), (6, .cell (sW w4))]) (4) ⟨0, evs3, w3, by omega, hw3, by omega, rfl⟩ (Le.mk rfl (tlb rfl rfl rfl (tlb rfl rfl rfl (tle rfl (rfl) rfl (tlb rfl rfl rfl (tle rfl (rfl) rfl (tle rfl (rfl) rfl (tle rfl (by rfl) rfl tln))))))) (olk rfl (by exact obOk_cell) (olk rfl (by exact obOkNs) (olk rfl (by exact obOkS0) (olk rfl (by exact obOkS rfl) oln)))) (hS_sub (a := [(0, .cell r)]) rfl)) ?_
      rintro n_ s ⟨j, evs4, w4, hj, hw4, he4, rfl⟩
      have hll := hw4.ll
      all_goals refine awp_seq (awp_seq (awp_region (id := 14) ?_))
      all_goals refine awpOps_cons (op_mv rfl (Conv.of rfl) rfl) ?_
      all_goals refine awpOps_cons (op_leq rfl rfl rfl) ?_
      all_goals refine awpOps_cons (op_mv rfl (Conv.of rfl) rfl) ?_
      all_goals refine g_split (t := 55) rfl (fun h => ?_) (fun h => ?_)
      all_goals first | refine awpOps_cons (g_off rfl rfl rfl rfl rfl) ?_ | refine awpOps_cons (g_on rfl rfl rfl (op_fab f29_2_WrldS rfl rfl)) ?_
      all_goals first | refine awpOps_cons (g_off rfl rfl rfl rfl rfl) ?_ | refine awpOps_cons (g_on rfl rfl rfl (op_ldl ty27_OListVote rfl rfl rfl)) ?_
      all_goals first | refine awpOps_cons (g_off rfl rfl rfl rfl rfl) ?_ | refine awpOps_cons (g_on rfl rfl rfl (op_len sl27 rfl rfl)) ?_
      all_goals first | refine awpOps_cons (g_off rfl rfl rfl rfl rfl) ?_ | refine awpOps_cons (g_on rfl rfl rfl (op_gtr rfl rfl rfl)) ?_
      all_goals refine awpOps_cons (op_pick rfl rfl rfl rfl) ?_
      all_goals refine awpOps_nil ?_
      · refine awp_cond rfl (fun h2 => ?_) (fun h2 => ?_)
        · have hj4 : j < 4 := by have := of_decide_eq_true h; omega
          refine awp_skip ?_
          refine awp_seq (awp_block ?_)
          all_goals refine awp_seq (awp_region (id := 16) ?_)
          all_goals refine awpOps_cons (op_fab f29_2_WrldS rfl rfl) ?_
          all_goals refine awpOps_cons (op_ldl ty27_OListVote rfl rfl rfl) ?_
          all_goals refine awpOps_cons (op_len sl27 rfl rfl) ?_
          all_goals refine awpOps_cons (op_sub rfl rfl rfl (by (simp only [sW]; omega))) ?_
          all_goals refine awpOps_cons (op_mv rfl (Conv.of rfl) rfl) ?_
          all_goals refine awpOps_cons (op_build (.cons f78_0 rfl (Conv.of rfl) (.cons f78_1 rfl (Conv.of rfl) (.cons f78_2 rfl (Conv.of rfl) (.nil _)))) z78 rfl pl78 rfl) ?_
          all_goals refine awpOps_cons (op_alloc (o := 8) z78 rfl rfl) ?_
          all_goals refine awpOps_cons (op_st ty78 rfl rfl (Conv.of rfl) rfl) ?_
          all_goals refine awpOps_nil ?_
          all_goals refine awp_seq (awp_region (id := 17) ?_)
          all_goals refine awpOps_cons (op_mvl rfl rfl rfl rfl) ?_
          all_goals refine awpOps_cons (op_ld ty78 rfl rfl rfl) ?_
          all_goals refine awpOps_cons (op_bsl sl23 z78 (.cons rfl (Conv.of rfl) (.nil _)) rfl (by decide) rfl) ?_
          all_goals refine awpOps_cons (op_app sl23 z78 ul23 rfl rfl rfl (by (simp; omega)) (by (simp; omega)) rfl rfl) ?_
          all_goals refine awpOps_cons (op_asl rfl rfl rfl rfl) ?_
          all_goals refine awpOps_nil ?_
          all_goals refine awp_region (id := 18) ?_
          all_goals refine awpOps_cons (op_ldm ty29_WrldS rfl rfl rfl) ?_
          all_goals refine awpOps_cons (op_ld ty78 rfl rfl rfl) ?_
          all_goals refine awpOps_cons (op_callM (s := 73) (pre := []) fb58 (.nil _) rfl (.cons rfl (Conv.of rfl) (.nil _)) (l21Do_ct w4 _ hw4) (olsk rfl ols0) (oksk (by exact obOkNs) oks0) (oksk (by exact obOkNs) oks0) rfl argO0 (argOk' rfl rfl argO0) (inOne rfl) (inOne rfl) rfl) ?_
          all_goals refine awpOps_cons (op_stm ty29_WrldS rfl rfl rfl) ?_
          all_goals refine awpOps_nil ?_
          all_goals refine awp_region (id := 15) ?_
          all_goals refine awpOps_cons (op_mv rfl (Conv.of rfl) rfl) ?_
          all_goals refine awpOps_cons (op_add rfl rfl rfl (by omega)) ?_
          all_goals refine awpOps_cons (op_as rfl (Conv.of rfl) rfl) ?_
          all_goals refine awpOps_nil ?_
          repeat first | refine nx_seq ?_ | refine nx_block ?_
          exact ⟨n_ - 1, _, by omega, ⟨j + 1, _, _, by omega, doF_ok _ hw4, by simp; omega, rfl⟩, Le.mk rfl (tlb rfl rfl rfl (tlb rfl rfl rfl (tle rfl (rfl) rfl (tlb rfl rfl rfl (tle rfl (rfl) rfl (tle rfl (rfl) rfl (tle rfl (by rfl) rfl tln))))))) (olk rfl (by exact obOk_cell) (olk rfl (by exact obOkNs) (olk rfl (by exact obOkS0) (olk rfl (by exact obOkS rfl) oln)))) (hS_sub (a := [(0, .cell r)]) rfl)⟩
        · refine awp_exit ?_
          repeat refine ex_seq ?_
          refine ex_block ?_
          exact nx_seq ⟨(evs4, w4), ⟨hw4, by simp only; omega⟩, Le.mk rfl (tlb rfl rfl rfl (tlb rfl rfl rfl (tle rfl (rfl) rfl (tlb rfl rfl rfl (tle rfl (rfl) rfl (tle rfl (rfl) rfl tln)))))) (olk rfl (by exact obOk_cell) (olk rfl (by exact obOkNs) (olk rfl (by exact obOkS0) (olk rfl (by exact obOkS rfl) oln)))) (hS_sub (a := [(0, .cell r)]) rfl)⟩
      · refine awp_cond rfl (fun h2 => absurd h2 (by decide)) (fun h2 => ?_)
        refine awp_exit ?_
        repeat refine ex_seq ?_
        refine ex_block ?_
        exact nx_seq ⟨(evs4, w4), ⟨hw4, by simp only; omega⟩, Le.mk rfl (tlb rfl rfl rfl (tlb rfl rfl rfl (tle rfl (rfl) rfl (tlb rfl rfl rfl (tle rfl (rfl) rfl (tle rfl (rfl) rfl tln)))))) (olk rfl (by exact obOk_cell) (olk rfl (by exact obOkNs) (olk rfl (by exact obOkS0) (olk rfl (by exact obOkS rfl) oln)))) (hS_sub (a := [(0, .cell r)]) rfl)⟩
    rintro ⟨evs5, w5⟩ ⟨hw5, he5⟩
    simp only at hw5 he5 ⊢
    refine awp_toB_ex (ι := List Evt × Wrld) (fun i => mkSt 120 [(0, .box 0 (IsLens.whole Rd)), (4, .box 5 (IsLens.whole WrldS)), (5, .v bad), (6, .box 6 (IsLens.whole WrldS)), (8, .v (OList.mk i.1 true)), (9, .v (n0 - (k : Int)))] [(0, .cell r2), (1, .arr (Wrld.nodes i.2 |>.map sN)), (5, .cell WrldS.zero), (6, .cell (sW i.2))]) (fun i => FineX i.2 ∧ i.1.length ≤ 10 * k + 10) ?_ ?_
    · all_goals refine awp_seq (awp_region (id := 19) ?_)
      all_goals refine awpOps_cons (op_as rfl (Conv.of rfl) rfl) ?_
      all_goals refine awpOps_nil ?_
      refine awp_block ?_
      refine awp_loop' (fun n_ s => ∃ (j : Nat), ∃ (evs6 : List Evt), ∃ (w6 : Wrld), ∃ (hj : n_ + j = 4), ∃ (hw6 : FineX w6), ∃ (he6 : evs6.length ≤ 10 * k + 6 + j), s = mkSt 120 [(0, .box 0 (IsLens.whole Rd)), (4, .box 5 (IsLens.whole WrldS)), (5, .v bad), (6, .box 6 (IsLens.whole WrldS)), (8, .v (OList.mk evs6 true)), (9, .v (n0 - (k : Int))), (14, .v ((j : Int) + 1))] [(0, .cell r2), (1, .arr (Wrld.nodes w6 |>.map sN)), (5, .cell WrldS.zero), (6, .cell (sW w6))]) (4) ⟨0, evs5, w5, by omega, hw5, by omega, rfl⟩ (Le.mk rfl (tlb rfl rfl rfl (tlb rfl rfl rfl (tle rfl (rfl) rfl (tlb rfl rfl rfl (tle rfl (rfl) rfl (tle rfl (rfl) rfl (tle rfl (by rfl) rfl tln))))))) (olk rfl (by exact obOk_cell) (olk rfl (by exact obOkNs) (olk rfl (by exact obOkS0) (olk rfl (by exact obOkS rfl) oln)))) (hS_sub (a := [(0, .cell r)]) rfl)) ?_
      rintro n_ s ⟨j, evs6, w6, hj, hw6, he6, rfl⟩
      have hll := hw6.ll
      all_goals refine awp_seq (awp_seq (awp_region (id := 20) ?_))
      all_goals refine awpOps_cons (op_mv rfl (Conv.of rfl) rfl) ?_
      all_goals refine awpOps_cons (op_leq rfl rfl rfl) ?_
      all_goals refine awpOps_cons (op_mv rfl (Conv.of rfl) rfl) ?_
      all_goals refine g_split (t := 78) rfl (fun h => ?_) (fun h => ?_)
      all_goals first | refine awpOps_cons (g_off rfl rfl rfl rfl rfl) ?_ | refine awpOps_cons (g_on rfl rfl rfl (op_fab f29_2_WrldS rfl rfl)) ?_
      all_goals first | refine awpOps_cons (g_off rfl rfl rfl rfl rfl) ?_ | refine awpOps_cons (g_on rfl rfl rfl (op_ldl ty27_OListVote rfl rfl rfl)) ?_
      all_goals first | refine awpOps_cons (g_off rfl rfl rfl rfl rfl) ?_ | refine awpOps_cons (g_on rfl rfl rfl (op_len sl27 rfl rfl)) ?_
      all_goals first | refine awpOps_cons (g_off rfl rfl rfl rfl rfl) ?_ | refine awpOps_cons (g_on rfl rfl rfl (op_gtr rfl rfl rfl)) ?_
      all_goals refine awpOps_cons (op_pick rfl rfl rfl rfl) ?_
      all_goals refine awpOps_nil ?_
      · refine awp_cond rfl (fun h2 => ?_) (fun h2 => ?_)
        · have hj4 : j < 4 := by have := of_decide_eq_true h; omega
          refine awp_skip ?_
          refine awp_seq (awp_block ?_)
          all_goals refine awp_seq (awp_region (id := 22) ?_)
          all_goals refine awpOps_cons (op_fab f29_2_WrldS rfl rfl) ?_
          all_goals refine awpOps_cons (op_ldl ty27_OListVote rfl rfl rfl) ?_
          all_goals refine awpOps_cons (op_len sl27 rfl rfl) ?_
          all_goals refine awpOps_cons (op_sub rfl rfl rfl (by (simp only [sW]; omega))) ?_
          all_goals refine awpOps_cons (op_mv rfl (Conv.of rfl) rfl) ?_
          all_goals refine awpOps_cons (op_build (.cons f78_0 rfl (Conv.of rfl) (.cons f78_1 rfl (Conv.of rfl) (.cons f78_2 rfl (Conv.of rfl) (.nil _)))) z78 rfl pl78 rfl) ?_
          all_goals refine awpOps_cons (op_alloc (o := 9) z78 rfl rfl) ?_
          all_goals refine awpOps_cons (op_st ty78 rfl rfl (Conv.of rfl) rfl) ?_
          all_goals refine awpOps_nil ?_
          all_goals refine awp_seq (awp_region (id := 23) ?_)
          all_goals refine awpOps_cons (op_mvl rfl rfl rfl rfl) ?_
          all_goals refine awpOps_cons (op_ld ty78 rfl rfl rfl) ?_
          all_goals refine awpOps_cons (op_bsl sl23 z78 (.cons rfl (Conv.of rfl) (.nil _)) rfl (by decide) rfl) ?_
          all_goals refine awpOps_cons (op_app sl23 z78 ul23 rfl rfl rfl (by (simp; omega)) (by (simp; omega)) rfl rfl) ?_
          all_goals refine awpOps_cons (op_asl rfl rfl rfl rfl) ?_
          all_goals refine awpOps_nil ?_
          all_goals refine awp_region (id := 24) ?_
          all_goals refine awpOps_cons (op_ldm ty29_WrldS rfl rfl rfl) ?_
          all_goals refine awpOps_cons (op_ld ty78 rfl rfl rfl) ?_
          all_goals refine awpOps_cons (op_callM (s := 96) (pre := []) fb58 (.nil _) rfl (.cons rfl (Conv.of rfl) (.nil _)) (l21Do_ct w6 _ hw6) (olsk rfl ols0) (oksk (by exact obOkNs) oks0) (oksk (by exact obOkNs) oks0) rfl argO0 (argOk' rfl rfl argO0) (inOne rfl) (inOne rfl) rfl) ?_
          all_goals refine awpOps_cons (op_stm ty29_WrldS rfl rfl rfl) ?_
          all_goals refine awpOps_nil ?_
          all_goals refine awp_region (id := 21) ?_
          all_goals refine awpOps_cons (op_mv rfl (Conv.of rfl) rfl) ?_
          all_goals refine awpOps_cons (op_add rfl rfl rfl (by omega)) ?_
          all_goals refine awpOps_cons (op_as rfl (Conv.of rfl) rfl) ?_
          all_goals refine awpOps_nil ?_
          repeat first | refine nx_seq ?_ | refine nx_block ?_
          exact ⟨n_ - 1, _, by omega, ⟨j + 1, _, _, by omega, doF_ok _ hw6, by simp; omega, rfl⟩, Le.mk rfl (tlb rfl rfl rfl (tlb rfl rfl rfl (tle rfl (rfl) rfl (tlb rfl rfl rfl (tle rfl (rfl) rfl (tle rfl (rfl) rfl (tle rfl (by rfl) rfl tln))))))) (olk rfl (by exact obOk_cell) (olk rfl (by exact obOkNs) (olk rfl (by exact obOkS0) (olk rfl (by exact obOkS rfl) oln)))) (hS_sub (a := [(0, .cell r)]) rfl)⟩
        · refine awp_exit ?_
          repeat refine ex_seq ?_
          refine ex_block ?_
          exact nx_block (nx_seq ⟨(evs6, w6), ⟨hw6, by simp only; omega⟩, Le.mk rfl (tlb rfl rfl rfl (tlb rfl rfl rfl (tle rfl (rfl) rfl (tlb rfl rfl rfl (tle rfl (rfl) rfl (tle rfl (rfl) rfl tln)))))) (olk rfl (by exact obOk_cell) (olk rfl (by exact obOkNs) (olk rfl (by exact obOkS0) (olk rfl (by exact obOkS rfl) oln)))) (hS_sub (a := [(0, .cell r)]) rfl)⟩)
      · refine awp_cond rfl (fun h2 => absurd h2 (by decide)) (fun h2 => ?_)
        refine awp_exit ?_
        repeat refine ex_seq ?_
        refine ex_block ?_
        exact nx_block (nx_seq ⟨(evs6, w6), ⟨hw6, by simp only; omega⟩, Le.mk rfl (tlb rfl rfl rfl (tlb rfl rfl rfl (tle rfl (rfl) rfl (tlb rfl rfl rfl (tle rfl (rfl) rfl (tle rfl (rfl) rfl tln)))))) (olk rfl (by exact obOk_cell) (olk rfl (by exact obOkNs) (olk rfl (by exact obOkS0) (olk rfl (by exact obOkS rfl) oln)))) (hS_sub (a := [(0, .cell r)]) rfl)⟩)
    rintro ⟨evs7, w7⟩ ⟨hw7, he7⟩
    simp only at hw7 he7 ⊢
    all_goals refine awp_region (id := 6) ?_
    all_goals refine awpOps_cons (op_mv rfl (Conv.of rfl) rfl) ?_
    all_goals refine awpOps_cons (op_sub rfl rfl rfl (by omega)) ?_
    all_goals refine awpOps_cons (op_as rfl (Conv.of rfl) rfl) ?_
    all_goals refine awpOps_nil ?_
    repeat first | refine nx_seq ?_ | refine nx_block ?_
    exact ⟨n_ - 1, _, by omega, ⟨k + 1, evs7, w7, r2, by omega, hw7, by omega, hf3.weak (by omega), rfl⟩, Le.mk rfl (tlb rfl rfl rfl (tlb rfl rfl rfl (tle rfl (rfl) rfl (tlb rfl rfl rfl (tle rfl (rfl) rfl (tle rfl (by (show AV.v _ = AV.v _; congr 1; omega)) rfl tln)))))) (olk rfl (by exact obOk_cell) (olk rfl (by exact obOkNs) (olk rfl (by exact obOkS0) (olk rfl (by exact obOkS rfl) oln)))) (hS_sub (a := [(0, .cell r)]) rfl)⟩
  · refine awp_exit ?_
    repeat refine ex_seq ?_
    refine ex_block ?_
    have hff : Far 2000 r1 := hf.weak (by omega)
    clear hf hk h hq1 hq1' hq0 hq0' hf1 hf2 hp
    have he40 : evs.length ≤ 40 := by omega
    clear he hk4
    refine awp_seq_ex (ι := List Evt × Wrld × Rd) (fun i => mkSt 120 [(0, .box 0 (IsLens.whole Rd)), (4, .box 5 (IsLens.whole WrldS)), (5, .v bad), (6, .box 6 (IsLens.whole WrldS)), (8, .v (OList.mk i.1 true))] [(0, .cell i.2.2), (1, .arr (Wrld.nodes i.2.1 |>.map sN)), (5, .cell WrldS.zero), (6, .cell (sW i.2.1))]) (fun i => FineX i.2.1 ∧ i.1.length ≤ 100 ∧ Far 20000 i.2.2) ?_ ?_
    · refine awp_block ?_
      refine awp_loop' (fun n_ s => ∃ (evs2 : List Evt), ∃ (w2 : Wrld), ∃ (r2 : Rd), ∃ (hj : n_ + evs2.length = 200), ∃ (hw2 : FineX w2), ∃ (he2 : evs2.length ≤ 100), ∃ (hf2 : Far (2000 + 130 * (evs2.length : Int)) r2), s = mkSt 120 [(0, .box 0 (IsLens.whole Rd)), (4, .box 5 (IsLens.whole WrldS)), (5, .v bad), (6, .box 6 (IsLens.whole WrldS)), (8, .v (OList.mk evs2 true))] [(0, .cell r2), (1, .arr (Wrld.nodes w2 |>.map sN)), (5, .cell WrldS.zero), (6, .cell (sW w2))]) (200 - evs.length) ⟨evs, w, r1, by omega, hw, by omega, hff.weak (by omega), rfl⟩ (Le.mk rfl (tlb rfl rfl rfl (tlb rfl rfl rfl (tle rfl (rfl) rfl (tlb rfl rfl rfl (tle rfl (rfl) rfl tln))))) (olk rfl (by exact obOk_cell) (olk rfl (by exact obOkNs) (olk rfl (by exact obOkS0) (olk rfl (by exact obOkS rfl) oln)))) (hS_sub (a := [(0, .cell r)]) rfl)) ?_
      rintro n_ s ⟨evs2, w2, r2, hj, hw2, he2, hf2, rfl⟩
      have hf3 : Far (2001 + 130 * (evs2.length : Int)) (nx r2 1) := hf2.nx (by omega) (by omega)
      all_goals refine awp_seq (awp_seq (awp_region (id := 25) ?_))
      all_goals refine awpOps_cons (op_mv rfl Conv.ol rfl) ?_
      all_goals refine awpOps_cons (op_len sl23 rfl rfl) ?_
      all_goals refine awpOps_cons (op_lss rfl rfl rfl) ?_
      all_goals refine awpOps_cons (op_mv rfl (Conv.of rfl) rfl) ?_
      all_goals refine g_split (t := 102) rfl (fun h => ?_) (fun h => ?_)
      all_goals first | refine awpOps_cons (g_off rfl rfl rfl rfl rfl) ?_ | refine awpOps_cons (g_on rfl rfl rfl (op_mv rfl (Conv.of rfl) rfl)) ?_
      all_goals first | refine awpOps_cons (g_off rfl rfl rfl rfl rfl) ?_ | refine awpOps_cons (g_on rfl rfl rfl (op_callO fb54 (.cons rfl (Conv.of rfl) (.cons rfl (Conv.of rfl) (.nil _))) (pick_ct r2 40 (by unfold Far at hf2; omega)) (olsk rfl ols0) (oksk (by exact obOk_cell) oks0) (oksk (by exact obOk_cell) oks0) rfl (argOb rfl rfl rfl (argOk' rfl rfl argO0)) (fun o ho => by cases ho) rfl)) ?_
      all_goals first | refine awpOps_cons (g_off rfl rfl rfl rfl rfl) ?_ | refine awpOps_cons (g_on rfl rfl rfl (op_gtr rfl rfl rfl)) ?_
      all_goals refine awpOps_cons (op_pick rfl rfl rfl rfl) ?_
      all_goals refine awpOps_nil ?_
      · have h69 : evs2.length < 69 := by have := of_decide_eq_true h; omega
        refine awp_cond rfl (fun h2 => ?_) (fun h2 => ?_)
        · refine awp_skip ?_
          refine awp_block ?_
          all_goals refine awp_seq (awp_region (id := 26) ?_)
          all_goals refine awpOps_cons (op_mv rfl (Conv.of rfl) rfl) ?_
          all_goals refine awpOps_cons (op_ldd ty29_WrldS rfl rfl rfl) ?_
          refine awpOps_callE (ι := Evt × Rd) (ro (nx r2 1) w2) (fun i => .v i.1) (fun i => ro i.2 w2) (fun i => (nx r2 1).p ≤ i.2.p ∧ i.2.p ≤ (nx r2 1).p + 120) rfl fb109 (.cons rfl (Conv.of rfl) (.cons rfl (Conv.of rfl) (.nil _))) (l72Event_ct (nx r2 1) w2 hw2 (hf3.weak (by omega))) (fun r h' ⟨v, r', e1, e2, e3, e4⟩ => ⟨(v, r'), e1, e2, e3, e4⟩) (olsk rfl (olsk rfl ols0)) (oksk obOk_cell (oksk obOkNs oks0)) (argOb rfl rfl rfl (argOb rfl rfl rfl argO0)) rfl (fun i => rfl) (fun i => oksk obOk_cell (oksk obOkNs oks0)) (fun i o ho => by cases ho) ?_
          rintro ⟨e, r3⟩ ⟨q1, q2⟩
          simp only at q1 q2 ⊢
          have hf4 : Far (2130 + 130 * (evs2.length : Int)) r3 := by unfold Far at hf3 ⊢; omega
          all_goals refine awpOps_cons (op_alloc (o := 10) z78 rfl rfl) ?_
          all_goals refine awpOps_cons (op_st ty78 rfl rfl (Conv.of rfl) rfl) ?_
          all_goals refine awpOps_nil ?_
          all_goals refine awp_seq (awp_region (id := 27) ?_)
          all_goals refine awpOps_cons (op_mvl rfl rfl rfl rfl) ?_
          all_goals refine awpOps_cons (op_ld ty78 rfl rfl rfl) ?_
          all_goals refine awpOps_cons (op_bsl sl23 z78 (.cons rfl (Conv.of rfl) (.nil _)) rfl (by decide) rfl) ?_
          all_goals refine awpOps_cons (op_app sl23 z78 ul23 rfl rfl rfl (by (simp; omega)) (by (simp; omega)) rfl rfl) ?_
          all_goals refine awpOps_cons (op_asl rfl rfl rfl rfl) ?_
          all_goals refine awpOps_nil ?_
          all_goals refine awp_region (id := 28) ?_
          all_goals refine awpOps_cons (op_ldm ty29_WrldS rfl rfl rfl) ?_
          all_goals refine awpOps_cons (op_ld ty78 rfl rfl rfl) ?_
          all_goals refine awpOps_cons (op_callM (s := 114) (pre := []) fb58 (.nil _) rfl (.cons rfl (Conv.of rfl) (.nil _)) (l21Do_ct w2 _ hw2) (olsk rfl ols0) (oksk (by exact obOkNs) oks0) (oksk (by exact obOkNs) oks0) rfl argO0 (argOk' rfl rfl argO0) (inOne rfl) (inOne rfl) rfl) ?_
          all_goals refine awpOps_cons (op_stm ty29_WrldS rfl rfl rfl) ?_
          all_goals refine awpOps_nil ?_
          repeat first | refine nx_seq ?_ | refine nx_block ?_
          exact ⟨n_ - 1, _, by omega, ⟨evs2 ++ [e], doF w2 e, r3, by simp; omega, doF_ok _ hw2, by simp; omega, hf4.weak (by simp; omega), rfl⟩, Le.mk rfl (tlb rfl rfl rfl (tlb rfl rfl rfl (tle rfl (rfl) rfl (tlb rfl rfl rfl (tle rfl (rfl) rfl tln))))) (olk rfl (by exact obOk_cell) (olk rfl (by exact obOkNs) (olk rfl (by exact obOkS0) (olk rfl (by exact obOkS rfl) oln)))) (hS_sub (a := [(0, .cell r)]) rfl)⟩
        · refine awp_exit ?_
          repeat refine ex_seq ?_
          refine ex_block ?_
          exact nx_seq ⟨(evs2, w2, nx r2 1), ⟨hw2, by simp only; omega, by simp only; exact Far.weak hf3 (by omega)⟩, Le.mk rfl (tlb rfl rfl rfl (tlb rfl rfl rfl (tle rfl (rfl) rfl (tlb rfl rfl rfl (tle rfl (rfl) rfl tln))))) (olk rfl (by exact obOk_cell) (olk rfl (by exact obOkNs) (olk rfl (by exact obOkS0) (olk rfl (by exact obOkS rfl) oln)))) (hS_sub (a := [(0, .cell r)]) rfl)⟩
      · refine awp_cond rfl (fun h2 => absurd h2 (by decide)) (fun h2 => ?_)
        refine awp_exit ?_
        repeat refine ex_seq ?_
        refine ex_block ?_
        exact nx_seq ⟨(evs2, w2, r2), ⟨hw2, by simp only; omega, by simp only; exact Far.weak hf2 (by omega)⟩, Le.mk rfl (tlb rfl rfl rfl (tlb rfl rfl rfl (tle rfl (rfl) rfl (tlb rfl rfl rfl (tle rfl (rfl) rfl tln))))) (olk rfl (by exact obOk_cell) (olk rfl (by exact obOkNs) (olk rfl (by exact obOkS0) (olk rfl (by exact obOkS rfl) oln)))) (hS_sub (a := [(0, .cell r)]) rfl)⟩
    · rintro ⟨evs3, w3, r3⟩ ⟨hw3, he3, hf3⟩
      simp only at hw3 he3 hf3 ⊢
      all_goals refine awp_seq (dr_start (id := 29) ?_)
      all_goals refine dr_cons (op_mv rfl (Conv.of rfl) rfl) ?_
      all_goals refine dr_cons (op_mvl rfl rfl rfl rfl) ?_
      all_goals refine dr_cons (op_ldm ty29_WrldS rfl rfl rfl) ?_
      all_goals refine dr_cons (op_as rfl (Conv.of rfl) rfl) ?_
      all_goals refine dr_cons (op_asl rfl rfl rfl rfl) ?_
      all_goals refine dr_cons (op_stm ty29_WrldS rfl rfl rfl) ?_
      all_goals refine dr_nil mixed rfl ?_
      refine awp_ret ?_
      repeat first | refine rt_seq ?_ | refine rt_block ?_
      exact ⟨_, _, resNM (ol := ro r3 w3) (.keep (.v rfl (Conv.of rfl)) (.tmp rfl (.cell ty29_WrldS rfl rfl (.nil _)))) rfl (inOne rfl) (olk rfl obOk_cell (olk rfl obOkNs oln)) (hS_sub rfl), bad, evs3, w3, r3, rfl, rfl, he3, hb, hw3, hf3⟩
end Go.Proofs.YtmdhfalfppkpeaaGreat

/- The reference: a drawn play. -/
set_option linter.unusedVariables false
set_option linter.unusedSimpArgs false
namespace Go.Proofs.YtmdhfalfppkpeaaGreat
open Go Go.Wt
set_option maxHeartbeats 4000000 in
theorem drawPlay_ct (code : List UInt8) : Ct Tryz.prog 15 [.v code] noObj (fun r1 h1 => ∃ (bad : Int) (evs : List Evt), r1 = .tup [.v bad, .v evs] ∧ h1 = noObj ∧ evs.length ≤ 100) := by
  refine Ct.intro Tryz.func15 rfl rfl ?_
  all_goals refine awp_seq (awp_region (id := 0) ?_)
  all_goals refine awpOps_cons (op_as rfl (Conv.of rfl) rfl) ?_
  all_goals refine awpOps_cons (op_as rfl (Conv.of rfl) rfl) ?_
  all_goals refine awpOps_nil ?_
  all_goals refine awp_seq (awp_region (id := 1) ?_)
  all_goals refine awpOps_cons (op_mv rfl (Conv.of rfl) rfl) ?_
  refine awpOps_callO [] rfl fb52 (.cons rfl (Conv.of rfl) (.nil _)) (l6Open_ct code) ols0 oks0 (argOk' rfl rfl argO0) rfl ?_
  rintro r_ h' ⟨rfl, rfl⟩
  refine ⟨[(0, .cell (Rd.mk (code.take 2000) 0))], rfl, (fun o ho => by cases ho), fun o ho _ => ?_, oksk obOk_cell oks0, fun o ho => ?_, ?_⟩
  · have : o = 0 := by simpa [keys, lk0] using ho
    subst this; rfl
  · have : o = 0 := by simpa using (show o ∈ [0] from ho)
    subst this; rfl
  have hf0 : Far 1000 (Rd.mk (code.take 2000) 0) := ⟨by simp, by simp⟩
  generalize Rd.mk (code.take 2000) 0 = r0 at hf0 ⊢
  all_goals refine awpOps_cons (op_as rfl (Conv.of rfl) rfl) ?_
  all_goals refine awpOps_nil ?_
  all_goals refine awp_seq (awp_region (id := 2) ?_)
  all_goals refine awpOps_cons (op_mv rfl (Conv.of rfl) rfl) ?_
  refine awpOps_callO [(0, .cell r0)] rfl fb53 (.cons rfl (Conv.of rfl) (.nil _)) (l72Play_ct r0 hf0) (olsk rfl ols0) (oksk obOk_cell oks0) (argOb rfl rfl rfl argO0) rfl ?_
  rintro r_ h' ⟨bad, evs, w, r1, rfl, rfl, he, hb, hw, hf⟩
  refine ⟨ro r1 w, rfl, fun o ho => ?_, fun o ho h1 => ?_, oksk obOk_cell (oksk obOkNs oks0), fun o ho => ?_, ?_⟩
  · have : o = 0 := by simpa [keys, lk0] using ho
    subst this; rfl
  · by_cases e0 : o = 0
    · subst e0; cases h1
    · have : o = 1 := by simpa [keys, lk0, e0] using ho
      subst this; rfl
  · have : o = 1 := by simpa using (show o ∈ [1] from ho)
    subst this; rfl
  have hk1 := pk_bd hf (by omega) 40
  have hf1 : Far 20001 (nx r1 1) := hf.nx (by omega) (by omega)
  have hk2 := pk_bd hf1 (by omega) 2
  have hk3 := hk2.2 (by omega)
  all_goals refine awpOps_cons (op_mvo rfl rfl rfl rfl) ?_
  all_goals refine awpOps_cons (op_ext rfl rfl rfl) ?_
  all_goals refine awpOps_cons (op_extm rfl rfl rfl rfl) ?_
  all_goals refine awpOps_cons (op_extm rfl rfl rfl rfl) ?_
  all_goals refine awpOps_cons (op_alloc (o := 6) z29_WrldS rfl rfl) ?_
  all_goals refine awpOps_cons (op_as rfl (Conv.of rfl) rfl) ?_
  all_goals refine awpOps_cons (op_asl rfl rfl rfl rfl) ?_
  all_goals refine awpOps_cons (op_stm ty29_WrldS rfl rfl rfl) ?_
  all_goals refine awpOps_nil ?_
  all_goals refine awp_seq (awp_seq (awp_region (id := 3) ?_))
  all_goals refine awpOps_cons (op_mv rfl (Conv.of rfl) rfl) ?_
  all_goals refine awpOps_cons (op_callO fb54 (.cons rfl (Conv.of rfl) (.cons rfl (Conv.of rfl) (.nil _))) (pick_ct r1 40 (by unfold Far at hf; omega)) (olsk rfl ols0) (oksk (by exact obOk_cell) oks0) (oksk (by exact obOk_cell) oks0) rfl (argOb rfl rfl rfl (argOk' rfl rfl argO0)) (fun o ho => by cases ho) rfl) ?_
  all_goals refine awpOps_nil ?_
  refine nx_seq (awp_to_ex (ι := Int × List Evt) (fun i => mkSt 36 [(5, .v i.1), (6, .v (OList.mk i.2 true))] []) (fun i => i.2.length ≤ 100) ?_ ?_)
  · refine awp_block ?_
    all_goals refine awp_seq (awp_region (id := 4) ?_)
    all_goals refine awpOps_cons (op_eql rfl rfl rfl) ?_
    all_goals refine awpOps_cons (op_as rfl (Conv.of rfl) rfl) ?_
    all_goals refine awpOps_nil ?_
    refine awp_cond rfl (fun h => ?_) (fun h => ?_)
    · have hx : ([-1, 5] : List Int)[(pk (nx r1 1) 2).toNat]? = some (([-1, 5] : List Int)[(pk (nx r1 1) 2).toNat]'(by simp; omega)) := List.getElem?_eq_getElem (by simp; omega)
      all_goals refine awp_region (id := 5) ?_
      all_goals refine awpOps_cons (op_bsl sl61 z3 (.cons rfl (Conv.of rfl) (.cons rfl (Conv.of rfl) (.nil _))) rfl (by decide) rfl) ?_
      all_goals refine awpOps_cons (op_mv rfl (Conv.of rfl) rfl) ?_
      all_goals refine awpOps_cons (op_callO fb54 (.cons rfl (Conv.of rfl) (.cons rfl (Conv.of rfl) (.nil _))) (pick_ct (nx r1 1) 2 (by unfold Far at hf1; omega)) (olsk rfl ols0) (oksk (by exact obOk_cell) oks0) (oksk (by exact obOk_cell) oks0) rfl (argOb rfl rfl rfl (argOk' rfl rfl argO0)) (fun o ho => by cases ho) rfl) ?_
      all_goals refine awpOps_cons (op_ix sl61 rfl rfl rfl hk2.1 hx) ?_
      all_goals refine awpOps_cons (op_ldr ty3 rfl rfl) ?_
      all_goals refine awpOps_cons (op_as rfl (Conv.of rfl) rfl) ?_
      all_goals refine awpOps_nil ?_
      refine nx_block (nx_seq ⟨(_, evs), he, Le.mk rfl (tle rfl (rfl) rfl (tle rfl (rfl) rfl tln)) oln noS⟩)
    · all_goals refine awp_seq (awp_region (id := 6) ?_)
      all_goals refine awpOps_cons (op_eql rfl rfl rfl) ?_
      all_goals refine awpOps_cons (op_as rfl (Conv.of rfl) rfl) ?_
      all_goals refine awpOps_nil ?_
      refine awp_cond rfl (fun h2 => ?_) (fun h2 => ?_)
      · refine awp_block ?_
        refine awp_loop' (fun n_ s => ∃ (evs2 : List Evt), ∃ (hj : n_ + evs2.length = 200), ∃ (he2 : evs2.length ≤ 100), s = mkSt 36 [(5, .v bad), (6, .v (OList.mk evs2 true))] []) (200 - evs.length) ⟨evs, by omega, he, rfl⟩ (Le.mk rfl (tle rfl (rfl) rfl (tle rfl (rfl) rfl tln)) oln noS) ?_
        rintro n_ s ⟨evs2, hj, he2, rfl⟩
        all_goals refine awp_seq (awp_seq (awp_region (id := 7) ?_))
        all_goals refine awpOps_cons (op_mv rfl Conv.ol rfl) ?_
        all_goals refine awpOps_cons (op_len sl23 rfl rfl) ?_
        all_goals refine awpOps_cons (op_leq rfl rfl rfl) ?_
        all_goals refine awpOps_nil ?_
        refine awp_cond rfl (fun h3 => ?_) (fun h3 => ?_)
        · have h70 : evs2.length ≤ 70 := by have := of_decide_eq_true h3; omega
          refine awp_skip ?_
          refine awp_block ?_
          all_goals refine awp_region (id := 8) ?_
          all_goals refine awpOps_cons (op_mvl rfl rfl rfl rfl) ?_
          all_goals refine awpOps_cons (op_build (.cons f78_0 rfl (Conv.of rfl) (.nil _)) z78 rfl pl78 rfl) ?_
          all_goals refine awpOps_cons (op_bsl sl23 z78 (.cons rfl (Conv.of rfl) (.nil _)) rfl (by decide) rfl) ?_
          all_goals refine awpOps_cons (op_app sl23 z78 ul23 rfl rfl rfl (by (simp; omega)) (by (simp; omega)) rfl rfl) ?_
          all_goals refine awpOps_cons (op_asl rfl rfl rfl rfl) ?_
          all_goals refine awpOps_nil ?_
          repeat first | refine nx_seq ?_ | refine nx_block ?_
          exact ⟨n_ - 1, _, by omega, ⟨evs2 ++ [_], by simp; omega, by simp; omega, rfl⟩, Le.mk rfl (tle rfl (rfl) rfl (tle rfl (rfl) rfl tln)) oln noS⟩
        · refine awp_exit ?_
          repeat refine ex_seq ?_
          refine ex_block ?_
          exact nx_block (nx_seq ⟨(bad, evs2), he2, Le.mk rfl (tle rfl (rfl) rfl (tle rfl (rfl) rfl tln)) oln noS⟩)
      · refine awp_skip ?_
        exact nx_block (nx_seq ⟨(bad, evs), he, Le.mk rfl (tle rfl (rfl) rfl (tle rfl (rfl) rfl tln)) oln noS⟩)
  · rintro ⟨bad2, evs2⟩ he2
    simp only at he2 ⊢
    all_goals refine awp_seq (awp_region (id := 9) ?_)
    all_goals refine awpOps_cons (op_mv rfl (Conv.of rfl) rfl) ?_
    all_goals refine awpOps_cons (op_mvl rfl rfl rfl rfl) ?_
    all_goals refine awpOps_cons (op_as rfl (Conv.of rfl) rfl) ?_
    all_goals refine awpOps_cons (op_asl rfl rfl rfl rfl) ?_
    all_goals refine awpOps_nil ?_
    refine awp_ret ?_
    repeat first | refine rt_seq ?_ | refine rt_block ?_
    exact ⟨_, _, resN (ol := []) (.cons (.v rfl (Conv.of rfl)) (.cons (.v rfl Conv.ol) .nil)) rfl (fun o ho => absurd (show o ∈ ([] : List Nat) from ho) (by simp)) oln noS, bad2, evs2, rfl, rfl, he2⟩
end Go.Proofs.YtmdhfalfppkpeaaGreat

/- The laws' own words: the same chains, votes, nodes, worlds. -/
set_option linter.unusedVariables false
set_option linter.unusedSimpArgs false
namespace Go.Proofs.YtmdhfalfppkpeaaGreat
open Go Go.Wt
theorem lwSame_ct (a b : List Itm) : CtP Tryz.prog 22 [.v a, .v b] (.v (decide (a = b))) := by
  refine Ct.intro Tryz.func22 rfl rfl ?_
  refine awp_bigL 0 rfl (fun hB => ?_)
  all_goals refine awp_seq (awp_region (id := 0) ?_)
  all_goals refine awpOps_cons (op_as rfl (Conv.of rfl) rfl) ?_
  all_goals refine awpOps_nil ?_
  all_goals refine awp_seq (awp_seq (awp_region (id := 1) ?_))
  all_goals refine awpOps_cons (op_mv rfl (Conv.of rfl) rfl) ?_
  all_goals refine awpOps_cons (op_len sl34 rfl rfl) ?_
  all_goals refine awpOps_cons (op_mv rfl (Conv.of rfl) rfl) ?_
  all_goals refine awpOps_cons (op_len sl34 rfl rfl) ?_
  all_goals refine awpOps_cons (op_neq rfl rfl rfl) ?_
  all_goals refine awpOps_nil ?_
  refine awp_cond rfl (fun h => ?_) (fun h => ?_)
  · all_goals refine awp_seq (awp_region (id := 2) ?_)
    all_goals refine awpOps_cons (op_as rfl (Conv.of rfl) rfl) ?_
    all_goals refine awpOps_nil ?_
    refine awp_ret ?_
    repeat first | refine rt_seq ?_ | refine rt_block ?_
    refine finP (.v rfl (Conv.of rfl)) rfl ?_
    show AV.v false = _
    have : a ≠ b := by intro e; subst e; simp at h
    simp [this]
  · refine awp_skip ?_
    have hlen : a.length = b.length := by simp at h; omega
    all_goals refine awp_seq (awp_seq (awp_region (id := 3) ?_))
    all_goals refine awpOps_cons (op_as rfl (Conv.of rfl) rfl) ?_
    all_goals refine awpOps_nil ?_
    refine awp_block ?_
    refine awp_loop' (fun n s => ∃ (k : Nat), ∃ (hn : n + k = a.length), ∃ (hall : decide (a = b) = decide (a.drop k = b.drop k)), s = mkSt 26 [(0, .v a), (1, .v b), (5, .v (k : Int))] []) (a.length) ⟨0, by omega, rfl, rfl⟩ (Le.mk rfl (tle rfl (rfl) rfl (tle rfl (rfl) rfl (tle rfl (rfl) rfl tln))) oln noS) ?_
    rintro n s ⟨k, hn, hall, rfl⟩
    all_goals refine awp_seq (awp_seq (awp_region (id := 4) ?_))
    all_goals refine awpOps_cons (op_mv rfl (Conv.of rfl) rfl) ?_
    all_goals refine awpOps_cons (op_mv rfl (Conv.of rfl) rfl) ?_
    all_goals refine awpOps_cons (op_len sl34 rfl rfl) ?_
    all_goals refine awpOps_cons (op_lss rfl rfl rfl) ?_
    all_goals refine awpOps_nil ?_
    refine awp_cond rfl (fun h => ?_) (fun h => ?_)
    · have hlt : k < a.length := by simpa using h
      have hx : a[k]? = some a[k] := List.getElem?_eq_getElem hlt
      have hy : b[k]? = some (b[k]'(by omega)) := List.getElem?_eq_getElem (by omega)
      have hs := same_drop hx hy
      refine awp_skip ?_
      refine awp_seq (awp_block ?_)
      all_goals refine awp_seq (dr_start (id := 6) ?_)
      all_goals refine dr_cons (op_mv rfl (Conv.of rfl) rfl) ?_
      all_goals refine dr_cons (op_mv rfl (Conv.of rfl) rfl) ?_
      all_goals refine dr_cons (op_ix sl34 rfl rfl rfl (by omega) hx) ?_
      all_goals refine dr_cons (op_ldr ty60 rfl rfl) ?_
      all_goals refine dr_cons (op_mv rfl (Conv.of rfl) rfl) ?_
      all_goals refine dr_cons (op_mv rfl (Conv.of rfl) rfl) ?_
      all_goals refine dr_cons (op_ix sl34 rfl rfl rfl (by omega) hy) ?_
      all_goals refine dr_cons (op_ldr ty60 rfl rfl) ?_
      all_goals refine dr_cons (op_nea weq60 rfl rfl rfl) ?_
      all_goals refine dr_nil mixed rfl ?_
      refine awp_cond rfl (fun h => ?_) (fun h => ?_)
      · all_goals refine awp_seq (awp_region (id := 7) ?_)
        all_goals refine awpOps_cons (op_as rfl (Conv.of rfl) rfl) ?_
        all_goals refine awpOps_nil ?_
        refine awp_ret ?_
        repeat first | refine rt_seq ?_ | refine rt_block ?_
        refine finP (.v rfl (Conv.of rfl)) rfl ?_
        show AV.v false = _
        have h' : decide (a[k] = b[k]) = false := by simpa using h
        rw [hall, hs, h', Bool.false_and]
      · refine awp_skip ?_
        all_goals refine awp_region (id := 5) ?_
        all_goals refine awpOps_cons (op_mv rfl (Conv.of rfl) rfl) ?_
        all_goals refine awpOps_cons (op_add rfl rfl rfl (by omega)) ?_
        all_goals refine awpOps_cons (op_as rfl (Conv.of rfl) rfl) ?_
        all_goals refine awpOps_nil ?_
        have h' : decide (a[k] = b[k]) = true := by simpa using h
        repeat first | refine nx_seq ?_ | refine nx_block ?_
        exact ⟨n - 1, _, by omega, ⟨k + 1, by omega, by rw [hall, hs, h', Bool.true_and], rfl⟩, Le.mk rfl (tle rfl (rfl) rfl (tle rfl (rfl) rfl (tle rfl (rfl) rfl tln))) oln noS⟩
    · refine awp_exit ?_
      repeat refine ex_seq ?_
      refine ex_block ?_
      have hk : a.length ≤ k := by simpa using h
      all_goals refine awp_seq (awp_region (id := 8) ?_)
      all_goals refine awpOps_cons (op_as rfl (Conv.of rfl) rfl) ?_
      all_goals refine awpOps_nil ?_
      refine awp_ret ?_
      repeat first | refine rt_seq ?_ | refine rt_block ?_
      refine finP (.v rfl (Conv.of rfl)) rfl ?_
      show AV.v true = _
      rw [hall, drop_end hk, drop_end (by omega : b.length ≤ k)]
      simp
theorem lwVote_ct (a b : Vote) : CtP Tryz.prog 41 [.v a, .v b] (.v (decide (a = b))) := by
  refine Ct.intro Tryz.func41 rfl rfl ?_
  all_goals refine awp_seq (awp_region (id := 0) ?_)
  all_goals refine awpOps_cons (op_box (o := 0) ty48 rfl (Conv.of rfl) rfl rfl) ?_
  all_goals refine awpOps_cons (op_box (o := 1) ty48 rfl (Conv.of rfl) rfl rfl) ?_
  all_goals refine awpOps_cons (op_as rfl (Conv.of rfl) rfl) ?_
  all_goals refine awpOps_nil ?_
  all_goals refine awp_seq (awp_region (id := 1) ?_)
  all_goals refine awpOps_cons (op_fab f48_0 rfl rfl) ?_
  all_goals refine awpOps_cons (op_ld ty3 rfl rfl rfl) ?_
  all_goals refine awpOps_cons (op_fab f48_0 rfl rfl) ?_
  all_goals refine awpOps_cons (op_ld ty3 rfl rfl rfl) ?_
  all_goals refine awpOps_cons (op_eql rfl rfl rfl) ?_
  all_goals refine awpOps_cons (op_mv rfl (Conv.of rfl) rfl) ?_
  all_goals refine g_split (t := 10) rfl (fun h => ?_) (fun h => ?_)
  all_goals first | refine awpOps_cons (g_off rfl rfl rfl rfl rfl) ?_ | refine awpOps_cons (g_on rfl rfl rfl (op_fab f48_1 rfl rfl)) ?_
  all_goals first | refine awpOps_cons (g_off rfl rfl rfl rfl rfl) ?_ | refine awpOps_cons (g_on rfl rfl rfl (op_ld ty34 rfl rfl rfl)) ?_
  all_goals first | refine awpOps_cons (g_off rfl rfl rfl rfl rfl) ?_ | refine awpOps_cons (g_on rfl rfl rfl (op_fab f48_1 rfl rfl)) ?_
  all_goals first | refine awpOps_cons (g_off rfl rfl rfl rfl rfl) ?_ | refine awpOps_cons (g_on rfl rfl rfl (op_ld ty34 rfl rfl rfl)) ?_
  all_goals first | refine awpOps_cons (g_off rfl rfl rfl rfl rfl) ?_ | refine awpOps_cons (g_on rfl rfl rfl (op_call fb22 (.cons rfl (Conv.of rfl) (.cons rfl (Conv.of rfl) (.nil _))) (lwSame_ct _ _) (argOk rfl rfl (argOk rfl rfl argOk0)) rfl rfl)) ?_
  all_goals refine awpOps_cons (op_pick rfl rfl rfl rfl) ?_
  all_goals refine awpOps_cons (op_as rfl (Conv.of rfl) rfl) ?_
  all_goals refine awpOps_nil ?_
  all_goals refine awp_ret ?_
  all_goals refine finP (.v rfl (Conv.of rfl)) rfl ?_
  all_goals (obtain ⟨a1, a2⟩ := a; obtain ⟨b1, b2⟩ := b; simp_all [FV.av])
theorem lwVotes_ct (a b : List Vote) : CtP Tryz.prog 49 [.v a, .v b] (.v (decide (a = b))) := by
  refine Ct.intro Tryz.func49 rfl rfl ?_
  refine awp_bigL 0 rfl (fun hB => ?_)
  all_goals refine awp_seq (awp_region (id := 0) ?_)
  all_goals refine awpOps_cons (op_as rfl (Conv.of rfl) rfl) ?_
  all_goals refine awpOps_nil ?_
  all_goals refine awp_seq (awp_seq (awp_region (id := 1) ?_))
  all_goals refine awpOps_cons (op_mv rfl (Conv.of rfl) rfl) ?_
  all_goals refine awpOps_cons (op_len sl27 rfl rfl) ?_
  all_goals refine awpOps_cons (op_mv rfl (Conv.of rfl) rfl) ?_
  all_goals refine awpOps_cons (op_len sl27 rfl rfl) ?_
  all_goals refine awpOps_cons (op_neq rfl rfl rfl) ?_
  all_goals refine awpOps_nil ?_
  refine awp_cond rfl (fun h => ?_) (fun h => ?_)
  · all_goals refine awp_seq (awp_region (id := 2) ?_)
    all_goals refine awpOps_cons (op_as rfl (Conv.of rfl) rfl) ?_
    all_goals refine awpOps_nil ?_
    refine awp_ret ?_
    repeat first | refine rt_seq ?_ | refine rt_block ?_
    refine finP (.v rfl (Conv.of rfl)) rfl ?_
    show AV.v false = _
    have : a ≠ b := by intro e; subst e; simp at h
    simp [this]
  · refine awp_skip ?_
    have hlen : a.length = b.length := by simp at h; omega
    all_goals refine awp_seq (awp_seq (awp_region (id := 3) ?_))
    all_goals refine awpOps_cons (op_as rfl (Conv.of rfl) rfl) ?_
    all_goals refine awpOps_nil ?_
    refine awp_block ?_
    refine awp_loop' (fun n s => ∃ (k : Nat), ∃ (hn : n + k = a.length), ∃ (hall : decide (a = b) = decide (a.drop k = b.drop k)), s = mkSt 27 [(0, .v a), (1, .v b), (5, .v (k : Int))] []) (a.length) ⟨0, by omega, rfl, rfl⟩ (Le.mk rfl (tle rfl (rfl) rfl (tle rfl (rfl) rfl (tle rfl (rfl) rfl tln))) oln noS) ?_
    rintro n s ⟨k, hn, hall, rfl⟩
    all_goals refine awp_seq (awp_seq (awp_region (id := 4) ?_))
    all_goals refine awpOps_cons (op_mv rfl (Conv.of rfl) rfl) ?_
    all_goals refine awpOps_cons (op_mv rfl (Conv.of rfl) rfl) ?_
    all_goals refine awpOps_cons (op_len sl27 rfl rfl) ?_
    all_goals refine awpOps_cons (op_lss rfl rfl rfl) ?_
    all_goals refine awpOps_nil ?_
    refine awp_cond rfl (fun h => ?_) (fun h => ?_)
    · have hlt : k < a.length := by simpa using h
      have hx : a[k]? = some a[k] := List.getElem?_eq_getElem hlt
      have hy : b[k]? = some (b[k]'(by omega)) := List.getElem?_eq_getElem (by omega)
      have hs := same_drop hx hy
      refine awp_skip ?_
      refine awp_seq (awp_block ?_)
      all_goals refine awp_seq (dr_start (id := 6) ?_)
      all_goals refine dr_cons (op_mv rfl (Conv.of rfl) rfl) ?_
      all_goals refine dr_cons (op_mv rfl (Conv.of rfl) rfl) ?_
      all_goals refine dr_cons (op_ix sl27 rfl rfl rfl (by omega) hx) ?_
      all_goals refine dr_cons (op_ldr ty48 rfl rfl) ?_
      all_goals refine dr_cons (op_mv rfl (Conv.of rfl) rfl) ?_
      all_goals refine dr_cons (op_mv rfl (Conv.of rfl) rfl) ?_
      all_goals refine dr_cons (op_ix sl27 rfl rfl rfl (by omega) hy) ?_
      all_goals refine dr_cons (op_ldr ty48 rfl rfl) ?_
      all_goals refine dr_cons (op_call fb41 (.cons rfl (Conv.of rfl) (.cons rfl (Conv.of rfl) (.nil _))) (lwVote_ct _ _) (argOk rfl rfl (argOk rfl rfl argOk0)) rfl rfl) ?_
      all_goals refine dr_cons (op_not rfl rfl) ?_
      all_goals refine dr_nil mixed rfl ?_
      refine awp_cond rfl (fun h => ?_) (fun h => ?_)
      · all_goals refine awp_seq (awp_region (id := 7) ?_)
        all_goals refine awpOps_cons (op_as rfl (Conv.of rfl) rfl) ?_
        all_goals refine awpOps_nil ?_
        refine awp_ret ?_
        repeat first | refine rt_seq ?_ | refine rt_block ?_
        refine finP (.v rfl (Conv.of rfl)) rfl ?_
        show AV.v false = _
        have h' : decide (a[k] = b[k]) = false := by simpa using h
        rw [hall, hs, h', Bool.false_and]
      · refine awp_skip ?_
        all_goals refine awp_region (id := 5) ?_
        all_goals refine awpOps_cons (op_mv rfl (Conv.of rfl) rfl) ?_
        all_goals refine awpOps_cons (op_add rfl rfl rfl (by omega)) ?_
        all_goals refine awpOps_cons (op_as rfl (Conv.of rfl) rfl) ?_
        all_goals refine awpOps_nil ?_
        have h' : decide (a[k] = b[k]) = true := by simpa using h
        repeat first | refine nx_seq ?_ | refine nx_block ?_
        exact ⟨n - 1, _, by omega, ⟨k + 1, by omega, by rw [hall, hs, h', Bool.true_and], rfl⟩, Le.mk rfl (tle rfl (rfl) rfl (tle rfl (rfl) rfl (tle rfl (rfl) rfl tln))) oln noS⟩
    · refine awp_exit ?_
      repeat refine ex_seq ?_
      refine ex_block ?_
      have hk : a.length ≤ k := by simpa using h
      all_goals refine awp_seq (awp_region (id := 8) ?_)
      all_goals refine awpOps_cons (op_as rfl (Conv.of rfl) rfl) ?_
      all_goals refine awpOps_nil ?_
      refine awp_ret ?_
      repeat first | refine rt_seq ?_ | refine rt_block ?_
      refine finP (.v rfl (Conv.of rfl)) rfl ?_
      show AV.v true = _
      rw [hall, drop_end hk, drop_end (by omega : b.length ≤ k)]
      simp
theorem lwNode_ct (a b : Nod) : CtP Tryz.prog 40 [.v a, .v b] (.v (decide (a = b))) := by
  refine Ct.intro Tryz.func40 rfl rfl ?_
  all_goals refine awp_seq (awp_region (id := 0) ?_)
  all_goals refine awpOps_cons (op_box (o := 0) ty41 rfl (Conv.of rfl) rfl rfl) ?_
  all_goals refine awpOps_cons (op_box (o := 1) ty41 rfl (Conv.of rfl) rfl rfl) ?_
  all_goals refine awpOps_cons (op_as rfl (Conv.of rfl) rfl) ?_
  all_goals refine awpOps_nil ?_
  all_goals refine awp_seq (awp_region (id := 1) ?_)
  all_goals refine awpOps_cons (op_fab f41_0 rfl rfl) ?_
  all_goals refine awpOps_cons (op_ld ty3 rfl rfl rfl) ?_
  all_goals refine awpOps_cons (op_fab f41_0 rfl rfl) ?_
  all_goals refine awpOps_cons (op_ld ty3 rfl rfl rfl) ?_
  all_goals refine awpOps_cons (op_eql rfl rfl rfl) ?_
  all_goals refine awpOps_cons (op_mv rfl (Conv.of rfl) rfl) ?_
  all_goals refine g_split (t := 10) rfl (fun h => ?_) (fun h => ?_)
  all_goals first | refine awpOps_cons (g_off rfl rfl rfl rfl rfl) ?_ | refine awpOps_cons (g_on rfl rfl rfl (op_fab f41_1 rfl rfl)) ?_
  all_goals first | refine awpOps_cons (g_off rfl rfl rfl rfl rfl) ?_ | refine awpOps_cons (g_on rfl rfl rfl (op_ld ty3 rfl rfl rfl)) ?_
  all_goals first | refine awpOps_cons (g_off rfl rfl rfl rfl rfl) ?_ | refine awpOps_cons (g_on rfl rfl rfl (op_fab f41_1 rfl rfl)) ?_
  all_goals first | refine awpOps_cons (g_off rfl rfl rfl rfl rfl) ?_ | refine awpOps_cons (g_on rfl rfl rfl (op_ld ty3 rfl rfl rfl)) ?_
  all_goals first | refine awpOps_cons (g_off rfl rfl rfl rfl rfl) ?_ | refine awpOps_cons (g_on rfl rfl rfl (op_eql rfl rfl rfl)) ?_
  all_goals refine awpOps_cons (op_pick rfl rfl rfl rfl) ?_
  all_goals refine awpOps_cons (op_mv rfl (Conv.of rfl) rfl) ?_
  all_goals first | refine g_lit (t := 17) (b := false) rfl ?_ | refine g_split (t := 17) rfl (fun h => ?_) (fun h => ?_)
  all_goals first | refine awpOps_cons (g_off rfl rfl rfl rfl rfl) ?_ | refine awpOps_cons (g_on rfl rfl rfl (op_fab f41_2 rfl rfl)) ?_
  all_goals first | refine awpOps_cons (g_off rfl rfl rfl rfl rfl) ?_ | refine awpOps_cons (g_on rfl rfl rfl (op_ld ty3 rfl rfl rfl)) ?_
  all_goals first | refine awpOps_cons (g_off rfl rfl rfl rfl rfl) ?_ | refine awpOps_cons (g_on rfl rfl rfl (op_fab f41_2 rfl rfl)) ?_
  all_goals first | refine awpOps_cons (g_off rfl rfl rfl rfl rfl) ?_ | refine awpOps_cons (g_on rfl rfl rfl (op_ld ty3 rfl rfl rfl)) ?_
  all_goals first | refine awpOps_cons (g_off rfl rfl rfl rfl rfl) ?_ | refine awpOps_cons (g_on rfl rfl rfl (op_eql rfl rfl rfl)) ?_
  all_goals refine awpOps_cons (op_pick rfl rfl rfl rfl) ?_
  all_goals refine awpOps_cons (op_mv rfl (Conv.of rfl) rfl) ?_
  all_goals first | refine g_lit (t := 24) (b := false) rfl ?_ | refine g_split (t := 24) rfl (fun h => ?_) (fun h => ?_)
  all_goals first | refine awpOps_cons (g_off rfl rfl rfl rfl rfl) ?_ | refine awpOps_cons (g_on rfl rfl rfl (op_fab f41_3 rfl rfl)) ?_
  all_goals first | refine awpOps_cons (g_off rfl rfl rfl rfl rfl) ?_ | refine awpOps_cons (g_on rfl rfl rfl (op_ld ty27 rfl rfl rfl)) ?_
  all_goals first | refine awpOps_cons (g_off rfl rfl rfl rfl rfl) ?_ | refine awpOps_cons (g_on rfl rfl rfl (op_fab f41_3 rfl rfl)) ?_
  all_goals first | refine awpOps_cons (g_off rfl rfl rfl rfl rfl) ?_ | refine awpOps_cons (g_on rfl rfl rfl (op_ld ty27 rfl rfl rfl)) ?_
  all_goals first | refine awpOps_cons (g_off rfl rfl rfl rfl rfl) ?_ | refine awpOps_cons (g_on rfl rfl rfl (op_call fb49 (.cons rfl (Conv.of rfl) (.cons rfl (Conv.of rfl) (.nil _))) (lwVotes_ct _ _) (argOk rfl rfl (argOk rfl rfl argOk0)) rfl rfl)) ?_
  all_goals refine awpOps_cons (op_pick rfl rfl rfl rfl) ?_
  all_goals refine awpOps_cons (op_as rfl (Conv.of rfl) rfl) ?_
  all_goals refine awpOps_nil ?_
  all_goals refine awp_ret ?_
  all_goals refine finP (.v rfl (Conv.of rfl)) rfl ?_
  all_goals (obtain ⟨a1, a2, a3, a4⟩ := a; obtain ⟨b1, b2, b3, b4⟩ := b; simp_all [FV.av])
theorem lwHas_ct (l : List Vote) (v : Vote) : CtP Tryz.prog 25 [.v l, .v v] (.v (decide (v ∈ l))) := by
  refine Ct.intro Tryz.func25 rfl rfl ?_
  refine awp_bigL 0 rfl (fun hB => ?_)
  all_goals refine awp_seq (awp_region (id := 0) ?_)
  all_goals refine awpOps_cons (op_box (o := 0) ty48 rfl (Conv.of rfl) rfl rfl) ?_
  all_goals refine awpOps_cons (op_as rfl (Conv.of rfl) rfl) ?_
  all_goals refine awpOps_nil ?_
  all_goals refine awp_seq (awp_seq (awp_region (id := 1) ?_))
  all_goals refine awpOps_cons (op_as rfl (Conv.of rfl) rfl) ?_
  all_goals refine awpOps_nil ?_
  refine awp_block ?_
  refine awp_loop' (fun n s => ∃ (k : Nat), ∃ (hn : n + k = l.length), ∃ (hall : decide (v ∈ l) = decide (v ∈ l.drop k)), s = mkSt 18 [(0, .v l), (3, .box 0 (IsLens.whole Vote)), (5, .v (k : Int))] [(0, .cell v)]) (l.length) ⟨0, by omega, rfl, rfl⟩ (Le.mk rfl (tle rfl (rfl) rfl (tlb rfl rfl rfl (tle rfl (rfl) rfl tln))) (olk rfl (by exact obOk_cell) oln) noS) ?_
  rintro n s ⟨k, hn, hall, rfl⟩
  all_goals refine awp_seq (awp_seq (awp_region (id := 2) ?_))
  all_goals refine awpOps_cons (op_mv rfl (Conv.of rfl) rfl) ?_
  all_goals refine awpOps_cons (op_mv rfl (Conv.of rfl) rfl) ?_
  all_goals refine awpOps_cons (op_len sl27 rfl rfl) ?_
  all_goals refine awpOps_cons (op_lss rfl rfl rfl) ?_
  all_goals refine awpOps_nil ?_
  refine awp_cond rfl (fun h => ?_) (fun h => ?_)
  · have hlt : k < l.length := by simpa using h
    have hx : l[k]? = some l[k] := List.getElem?_eq_getElem hlt
    have hs := mem_take_at (v := v) hx
    refine awp_skip ?_
    refine awp_seq (awp_block ?_)
    all_goals refine awp_seq (dr_start (id := 4) ?_)
    all_goals refine dr_cons (op_mv rfl (Conv.of rfl) rfl) ?_
    all_goals refine dr_cons (op_mv rfl (Conv.of rfl) rfl) ?_
    all_goals refine dr_cons (op_ix sl27 rfl rfl rfl (by omega) hx) ?_
    all_goals refine dr_cons (op_ldr ty48 rfl rfl) ?_
    all_goals refine dr_cons (op_ld ty48 rfl rfl rfl) ?_
    all_goals refine dr_cons (op_call fb41 (.cons rfl (Conv.of rfl) (.cons rfl (Conv.of rfl) (.nil _))) (lwVote_ct _ _) (argOk rfl rfl (argOk rfl rfl argOk0)) rfl rfl) ?_
    all_goals refine dr_nil mixed rfl ?_
    refine awp_cond rfl (fun h => ?_) (fun h => ?_)
    · all_goals refine awp_seq (awp_region (id := 5) ?_)
      all_goals refine awpOps_cons (op_as rfl (Conv.of rfl) rfl) ?_
      all_goals refine awpOps_nil ?_
      refine awp_ret ?_
      repeat first | refine rt_seq ?_ | refine rt_block ?_
      refine finP (.v rfl (Conv.of rfl)) rfl ?_
      show AV.v true = _
      rw [hall, hs, h, Bool.true_or]
    · refine awp_skip ?_
      all_goals refine awp_region (id := 3) ?_
      all_goals refine awpOps_cons (op_mv rfl (Conv.of rfl) rfl) ?_
      all_goals refine awpOps_cons (op_add rfl rfl rfl (by omega)) ?_
      all_goals refine awpOps_cons (op_as rfl (Conv.of rfl) rfl) ?_
      all_goals refine awpOps_nil ?_
      repeat first | refine nx_seq ?_ | refine nx_block ?_
      exact ⟨n - 1, _, by omega, ⟨k + 1, by omega, by rw [hall, hs, h, Bool.false_or], rfl⟩, Le.mk rfl (tle rfl (rfl) rfl (tlb rfl rfl rfl (tle rfl (rfl) rfl tln))) (olk rfl (by exact obOk_cell) oln) noS⟩
  · refine awp_exit ?_
    repeat refine ex_seq ?_
    refine ex_block ?_
    have hk : l.length ≤ k := by simpa using h
    all_goals refine awp_seq (awp_region (id := 6) ?_)
    all_goals refine awpOps_cons (op_as rfl (Conv.of rfl) rfl) ?_
    all_goals refine awpOps_nil ?_
    refine awp_ret ?_
    repeat first | refine rt_seq ?_ | refine rt_block ?_
    refine finP (.v rfl (Conv.of rfl)) rfl ?_
    show AV.v false = _
    rw [hall, drop_end hk]; simp
theorem lwWorld_ct (a b : Wrld) : CtP Tryz.prog 18 [.v a, .v b] (.v (decide (a = b))) := by
  refine Ct.intro Tryz.func18 rfl rfl ?_
  all_goals refine awp_seq (awp_region (id := 0) ?_)
  all_goals refine awpOps_cons (op_box (o := 0) ty29 rfl (Conv.of rfl) rfl rfl) ?_
  all_goals refine awpOps_cons (op_box (o := 1) ty29 rfl (Conv.of rfl) rfl rfl) ?_
  all_goals refine awpOps_cons (op_as rfl (Conv.of rfl) rfl) ?_
  all_goals refine awpOps_nil ?_
  refine awp_seq (awp_seq_to (s' := mkSt 54 [(2, .box 0 (IsLens.whole Wrld)), (3, .box 1 (IsLens.whole Wrld)), (34, .v (!(decide (a.epoch = b.epoch) && decide (a.bad = b.bad) && decide (a.nodes.length = b.nodes.length) && decide (a.log = b.log))))] [(0, .cell a), (1, .cell b)]) ?_ ?_)
  · all_goals refine awp_region (id := 1) ?_
    all_goals refine awpOps_cons (op_fab f29_0 rfl rfl) ?_
    all_goals refine awpOps_cons (op_ld ty3 rfl rfl rfl) ?_
    all_goals refine awpOps_cons (op_fab f29_0 rfl rfl) ?_
    all_goals refine awpOps_cons (op_ld ty3 rfl rfl rfl) ?_
    all_goals refine awpOps_cons (op_neq rfl rfl rfl) ?_
    all_goals refine awpOps_cons (op_mv rfl (Conv.of rfl) rfl) ?_
    all_goals refine g_split (t := 11) rfl (fun h => ?_) (fun h => ?_)
    all_goals first | refine awpOps_cons (g_off rfl rfl rfl rfl rfl) ?_ | refine awpOps_cons (g_on rfl rfl rfl (op_fab f29_3 rfl rfl)) ?_
    all_goals first | refine awpOps_cons (g_off rfl rfl rfl rfl rfl) ?_ | refine awpOps_cons (g_on rfl rfl rfl (op_ld ty3 rfl rfl rfl)) ?_
    all_goals first | refine awpOps_cons (g_off rfl rfl rfl rfl rfl) ?_ | refine awpOps_cons (g_on rfl rfl rfl (op_fab f29_3 rfl rfl)) ?_
    all_goals first | refine awpOps_cons (g_off rfl rfl rfl rfl rfl) ?_ | refine awpOps_cons (g_on rfl rfl rfl (op_ld ty3 rfl rfl rfl)) ?_
    all_goals first | refine awpOps_cons (g_off rfl rfl rfl rfl rfl) ?_ | refine awpOps_cons (g_on rfl rfl rfl (op_neq rfl rfl rfl)) ?_
    all_goals refine awpOps_cons (op_pick rfl rfl rfl rfl) ?_
    all_goals refine awpOps_cons (op_mv rfl (Conv.of rfl) rfl) ?_
    all_goals first | refine g_lit (t := 18) (b := true) rfl ?_ | refine g_split (t := 18) rfl (fun h => ?_) (fun h => ?_)
    all_goals first | refine awpOps_cons (g_off rfl rfl rfl rfl rfl) ?_ | refine awpOps_cons (g_on rfl rfl rfl (op_fab f29_1 rfl rfl)) ?_
    all_goals first | refine awpOps_cons (g_off rfl rfl rfl rfl rfl) ?_ | refine awpOps_cons (g_on rfl rfl rfl (op_ld ty26 rfl rfl rfl)) ?_
    all_goals first | refine awpOps_cons (g_off rfl rfl rfl rfl rfl) ?_ | refine awpOps_cons (g_on rfl rfl rfl (op_len sl26 rfl rfl)) ?_
    all_goals first | refine awpOps_cons (g_off rfl rfl rfl rfl rfl) ?_ | refine awpOps_cons (g_on rfl rfl rfl (op_fab f29_1 rfl rfl)) ?_
    all_goals first | refine awpOps_cons (g_off rfl rfl rfl rfl rfl) ?_ | refine awpOps_cons (g_on rfl rfl rfl (op_ld ty26 rfl rfl rfl)) ?_
    all_goals first | refine awpOps_cons (g_off rfl rfl rfl rfl rfl) ?_ | refine awpOps_cons (g_on rfl rfl rfl (op_len sl26 rfl rfl)) ?_
    all_goals first | refine awpOps_cons (g_off rfl rfl rfl rfl rfl) ?_ | refine awpOps_cons (g_on rfl rfl rfl (op_neq rfl rfl rfl)) ?_
    all_goals refine awpOps_cons (op_pick rfl rfl rfl rfl) ?_
    all_goals refine awpOps_cons (op_mv rfl (Conv.of rfl) rfl) ?_
    all_goals first | refine g_lit (t := 27) (b := true) rfl ?_ | refine g_split (t := 27) rfl (fun h => ?_) (fun h => ?_)
    all_goals first | refine awpOps_cons (g_off rfl rfl rfl rfl rfl) ?_ | refine awpOps_cons (g_on rfl rfl rfl (op_fab f29_2 rfl rfl)) ?_
    all_goals first | refine awpOps_cons (g_off rfl rfl rfl rfl rfl) ?_ | refine awpOps_cons (g_on rfl rfl rfl (op_ld ty27 rfl rfl rfl)) ?_
    all_goals first | refine awpOps_cons (g_off rfl rfl rfl rfl rfl) ?_ | refine awpOps_cons (g_on rfl rfl rfl (op_fab f29_2 rfl rfl)) ?_
    all_goals first | refine awpOps_cons (g_off rfl rfl rfl rfl rfl) ?_ | refine awpOps_cons (g_on rfl rfl rfl (op_ld ty27 rfl rfl rfl)) ?_
    all_goals first | refine awpOps_cons (g_off rfl rfl rfl rfl rfl) ?_ | refine awpOps_cons (g_on rfl rfl rfl (op_call fb49 (.cons rfl (Conv.of rfl) (.cons rfl (Conv.of rfl) (.nil _))) (lwVotes_ct _ _) (argOk rfl rfl (argOk rfl rfl argOk0)) rfl rfl)) ?_
    all_goals first | refine awpOps_cons (g_off rfl rfl rfl rfl rfl) ?_ | refine awpOps_cons (g_on rfl rfl rfl (op_not rfl rfl)) ?_
    all_goals refine awpOps_cons (op_pick rfl rfl rfl rfl) ?_
    all_goals refine awpOps_nil ?_
    all_goals exact Le.mk rfl (tlb rfl rfl rfl (tlb rfl rfl rfl (tle rfl (by (simp_all <;> omega)) rfl tln))) (olk rfl (by exact obOk_cell) (olk rfl (by exact obOk_cell) oln)) noS
  refine awp_cond rfl (fun h => ?_) (fun h => ?_)
  · all_goals refine awp_seq (awp_region (id := 2) ?_)
    all_goals refine awpOps_cons (op_as rfl (Conv.of rfl) rfl) ?_
    all_goals refine awpOps_nil ?_
    refine awp_ret ?_
    repeat first | refine rt_seq ?_ | refine rt_block ?_
    refine finP (.v rfl (Conv.of rfl)) rfl ?_
    show AV.v false = _
    have : a ≠ b := by intro e; subst e; simp at h
    simp [this]
  · have h0 := not_f h
    simp only [Bool.and_eq_true, decide_eq_true_eq] at h0
    obtain ⟨⟨⟨g1, g2⟩, g3⟩, g4⟩ := h0
    have heq : decide (a = b) = decide (a.nodes = b.nodes) := by
      obtain ⟨a1, a2, a3, a4⟩ := a
      obtain ⟨b1, b2, b3, b4⟩ := b
      simp_all
    refine awp_skip ?_
    all_goals refine awp_seq (awp_seq (awp_region (id := 3) ?_))
    all_goals refine awpOps_cons (op_as rfl (Conv.of rfl) rfl) ?_
    all_goals refine awpOps_nil ?_
    refine awp_block ?_
    refine awp_loop' (fun n s => ∃ (k : Nat), ∃ (hn : n + k = a.nodes.length), ∃ (hall : decide (a = b) = decide (a.nodes.drop k = b.nodes.drop k)), s = mkSt 54 [(2, .box 0 (IsLens.whole Wrld)), (3, .box 1 (IsLens.whole Wrld)), (5, .v (k : Int))] [(0, .cell a), (1, .cell b)]) (a.nodes.length) ⟨0, by omega, heq, rfl⟩ (Le.mk rfl (tlb rfl rfl rfl (tlb rfl rfl rfl (tle rfl (rfl) rfl tln))) (olk rfl (by exact obOk_cell) (olk rfl (by exact obOk_cell) oln)) noS) ?_
    rintro n s ⟨k, hn, hall, rfl⟩
    all_goals refine awp_seq (awp_seq (awp_region (id := 4) ?_))
    all_goals refine awpOps_cons (op_mv rfl (Conv.of rfl) rfl) ?_
    all_goals refine awpOps_cons (op_fab f29_1 rfl rfl) ?_
    all_goals refine awpOps_cons (op_ld ty26 rfl rfl rfl) ?_
    refine awpOps_bigL 37 rfl (fun hB => ?_)
    all_goals refine awpOps_cons (op_len sl26 rfl rfl) ?_
    all_goals refine awpOps_cons (op_lss rfl rfl rfl) ?_
    all_goals refine awpOps_nil ?_
    refine awp_cond rfl (fun h => ?_) (fun h => ?_)
    · have hlt : k < a.nodes.length := by simpa using h
      have hx : a.nodes[k]? = some a.nodes[k] := List.getElem?_eq_getElem hlt
      have hy : b.nodes[k]? = some (b.nodes[k]'(by omega)) := List.getElem?_eq_getElem (by omega)
      have hs := same_drop hx hy
      refine awp_skip ?_
      refine awp_seq (awp_block ?_)
      all_goals refine awp_seq (dr_start (id := 6) ?_)
      all_goals refine dr_cons (op_fab f29_1 rfl rfl) ?_
      all_goals refine dr_cons (op_ld ty26 rfl rfl rfl) ?_
      all_goals refine dr_cons (op_mv rfl (Conv.of rfl) rfl) ?_
      all_goals refine dr_cons (op_ix sl26 rfl rfl rfl (by omega) hx) ?_
      all_goals refine dr_cons (op_ldr ty41 rfl rfl) ?_
      all_goals refine dr_cons (op_fab f29_1 rfl rfl) ?_
      all_goals refine dr_cons (op_ld ty26 rfl rfl rfl) ?_
      all_goals refine dr_cons (op_mv rfl (Conv.of rfl) rfl) ?_
      all_goals refine dr_cons (op_ix sl26 rfl rfl rfl (by omega) hy) ?_
      all_goals refine dr_cons (op_ldr ty41 rfl rfl) ?_
      all_goals refine dr_cons (op_call fb40 (.cons rfl (Conv.of rfl) (.cons rfl (Conv.of rfl) (.nil _))) (lwNode_ct _ _) (argOk rfl rfl (argOk rfl rfl argOk0)) rfl rfl) ?_
      all_goals refine dr_cons (op_not rfl rfl) ?_
      all_goals refine dr_nil mixed rfl ?_
      refine awp_cond rfl (fun h => ?_) (fun h => ?_)
      · all_goals refine awp_seq (awp_region (id := 7) ?_)
        all_goals refine awpOps_cons (op_as rfl (Conv.of rfl) rfl) ?_
        all_goals refine awpOps_nil ?_
        refine awp_ret ?_
        repeat first | refine rt_seq ?_ | refine rt_block ?_
        refine finP (.v rfl (Conv.of rfl)) rfl ?_
        show AV.v false = _
        have h' : decide (a.nodes[k] = b.nodes[k]) = false := by simpa using h
        rw [hall, hs, h', Bool.false_and]
      · refine awp_skip ?_
        all_goals refine awp_region (id := 5) ?_
        all_goals refine awpOps_cons (op_mv rfl (Conv.of rfl) rfl) ?_
        all_goals refine awpOps_cons (op_add rfl rfl rfl (by omega)) ?_
        all_goals refine awpOps_cons (op_as rfl (Conv.of rfl) rfl) ?_
        all_goals refine awpOps_nil ?_
        have h' : decide (a.nodes[k] = b.nodes[k]) = true := by simpa using h
        repeat first | refine nx_seq ?_ | refine nx_block ?_
        exact ⟨n - 1, _, by omega, ⟨k + 1, by omega, by rw [hall, hs, h', Bool.true_and], rfl⟩, Le.mk rfl (tlb rfl rfl rfl (tlb rfl rfl rfl (tle rfl (rfl) rfl tln))) (olk rfl (by exact obOk_cell) (olk rfl (by exact obOk_cell) oln)) noS⟩
    · refine awp_exit ?_
      repeat refine ex_seq ?_
      refine ex_block ?_
      have hk : a.nodes.length ≤ k := by simpa using h
      all_goals refine awp_seq (awp_region (id := 8) ?_)
      all_goals refine awpOps_cons (op_as rfl (Conv.of rfl) rfl) ?_
      all_goals refine awpOps_nil ?_
      refine awp_ret ?_
      repeat first | refine rt_seq ?_ | refine rt_block ?_
      refine finP (.v rfl (Conv.of rfl)) rfl ?_
      show AV.v true = _
      rw [hall, drop_end hk, drop_end (by omega : b.nodes.length ≤ k)]
      simp
end Go.Proofs.YtmdhfalfppkpeaaGreat

/- From a call's contract to the given row: slices of bytes that come in. -/
set_option linter.unusedVariables false
namespace Go.Wt
open Go Go.ChangeShapes Go.WideShapes Go.RowKit
/-- A slice of bytes that came in. -/
def IsRow (w : World) (a : Option Addr) (len cap : Nat) (zs : List Int) : Prop :=
  (a = none ∧ len = 0 ∧ cap = 0 ∧ zs = []) ∨
  ∃ x, a = some x ∧ len ≤ cap ∧ zs.length = cap ∧ (∀ i, i < zs.length → w.cell? (x.add i) = some (.int .u8 (zs.getD i 0))) ∧ ∀ n ∈ zs, (Lit.int .u8 n).wf = true
def G0 : Gh := ⟨fun _ _ => none, fun _ => none⟩
def codeOf (zs : List Int) (len : Nat) : List UInt8 := (zs.take len).map fun z => UInt8.ofNat z.toNat
theorem codeOf_rd {w : World} {a : Option Addr} {len cap : Nat} {zs : List Int} {ω : Owner} (h : IsRow w a len cap zs) (y : len ≤ 140737488351232) : RelV G0 w ω (.v (codeOf zs len)) (.slice a len cap) := by
  refine ⟨[.slice a len cap], ?_, rfl⟩
  rcases h with ⟨rfl, rfl, rfl, rfl⟩ | ⟨x, rfl, hl, hz, hc, hw⟩
  · exact ⟨none, 0, rfl, Nat.le_refl _, .inl rfl⟩
  · have hlen : (codeOf zs len).length = len := by simp [codeOf]; omega
    refine ⟨some x, cap, by rw [hlen], by rw [hlen]; exact hl, ?_⟩
    by_cases h0 : len = 0
    · left; exact List.eq_nil_of_length_eq_zero (by omega)
    · right
      obtain ⟨b, off, spot⟩ := x
      have h1 := hc 0 (by omega)
      have hsp : spot = none := by
        cases spot with
        | none => rfl
        | some s =>
          exfalso
          simp only [Addr.add, if_true, World.cell?] at h1
          split at h1 <;> simp at h1
      subst hsp
      refine ⟨b, off, rfl, by rw [hlen]; show len ≤ 4611686018427387904; omega, fun i u hu => ?_⟩
      have hi : i < len := by have := getElem?_lt hu; omega
      have hiz : i < zs.length := by omega
      have hu' : u = UInt8.ofNat (zs.getD i 0).toNat := by
        unfold codeOf at hu
        rw [List.getElem?_map, List.getElem?_take, if_pos hi, List.getElem?_eq_getElem hiz] at hu
        simp at hu
        rw [← hu, List.getD_eq_getElem?_getD, List.getElem?_eq_getElem hiz]; rfl
      have hwf := hw (zs.getD i 0) (by
        rw [List.getD_eq_getElem?_getD, List.getElem?_eq_getElem hiz]; exact List.getElem_mem hiz)
      have hn : ((u.toNat : Nat) : Int) = zs.getD i 0 := by
        have hb : 0 ≤ zs.getD i 0 ∧ zs.getD i 0 < 256 := by
          have hh : 0 ≤ zs.getD i 0 ∧ zs.getD i 0 ≤ 255 := by simpa [Lit.wf, IntKind.min, IntKind.max, IntKind.signed, IntKind.bits] using hwf
          omega
        rw [hu']
        have : (UInt8.ofNat (zs.getD i 0).toNat).toNat = (zs.getD i 0).toNat := by
          rw [UInt8.toNat_ofNat']; omega
        rw [this]; omega
      refine ⟨[.int .u8 u.toNat], rfl, fun j v hj => ?_⟩
      have hj0 : j = 0 := by
        have := getElem?_lt hj
        simp at this; exact this
      subst hj0
      simp at hj
      subst hj
      refine ⟨rfl, ?_⟩
      have h2 := hc i hiz
      have e : (⟨b, off, none⟩ : Addr).add i = ⟨b, off + i, none⟩ := add_lit b off i
      rw [e] at h2
      show cl w b (off + i * 1 + 0) = _
      rw [Nat.mul_one, Nat.add_zero]
      show w.cell? ⟨b, off + i, none⟩ = _
      rw [h2, hn]
theorem keep_below {S : Nat → Prop} {w w' : World} {G' : Gh} (h : Keep S G0 w G' w') : Below w.heap.size w w' :=
  ⟨h.os, h.tape, h.output, h.size, fun k hk => h.block k hk fun _ _ _ => .inl rfl⟩
theorem row_bool {P : Program} {f : FuncId} {args : List AV} {vs : List Value} {w : World} (h : CtP P f args (.v true)) (hr : RelAs G0 w 0 args vs) :
    Calls P f vs.toArray w fun e w' => e = .returned (.bool true) ∧ Below w.heap.size w w' :=
  (h G0 w vs hr fun o => rfl).mono fun e w' ⟨r, h', v, G', e1, ⟨e2, e3⟩, e4, e5, e6⟩ => by
    subst e2
    exact ⟨by rw [e1, RelV.bool e4], keep_below e6⟩
theorem row1 {P : Program} {f : FuncId} (h : ∀ code : List UInt8, CtP P f [.v code] (.v true)) {a : Option Addr} {len cap : Nat} {zs : List Int} (w : World) (hr : IsRow w a len cap zs) (y : len ≤ 140737488351232) :
    Calls P f #[.slice a len cap] w fun e w' => e = .returned (.bool true) ∧ Below w.heap.size w w' :=
  row_bool (vs := [_]) (h (codeOf zs len)) ⟨_, _, rfl, codeOf_rd hr y, rfl⟩
theorem row2 {P : Program} {f : FuncId} (h : ∀ code more : List UInt8, CtP P f [.v code, .v more] (.v true)) {a a2 : Option Addr} {len cap len2 cap2 : Nat} {zs zs2 : List Int} (w : World) (hr : IsRow w a len cap zs) (y : len ≤ 140737488351232)
    (hr2 : IsRow w a2 len2 cap2 zs2) (y2 : len2 ≤ 140737488351232) : Calls P f #[.slice a len cap, .slice a2 len2 cap2] w fun e w' => e = .returned (.bool true) ∧ Below w.heap.size w w' :=
  row_bool (vs := [_, _]) (h (codeOf zs len) (codeOf zs2 len2)) ⟨_, _, rfl, codeOf_rd hr y, _, _, rfl, codeOf_rd hr2 y2, rfl⟩
/-- What came in is read. -/
theorem rowOf {H : Type} {enc : TypeId × Value → H} {P : Program} {W : World} {base : Nat} {spare : Nat → Bool} {held : Bool} {t e : TypeId} {a : Option Addr} {len cap : Nat} {d : DataW H} {ps : List MemPlace} (hsp : ∀ b, spare b = true)
    (hu : P.underlying t = some (.slice e)) (he : P.underlying e = some (.int .u8)) (hc : P.cellsOf e = 1) (h : DataW.Trod enc P W base spare held t (.slice a len cap) d ps) : ∃ zs, IsRow W a len cap zs := by
  obtain ⟨fuel, hf⟩ := h
  rcases open_ints hu he hc hf with ⟨hcs, _⟩ | ⟨x, l, c, zs, hcs, _, hl, hm, hz, _, hcell, hwz⟩
  · simp [Value.cells] at hcs
    obtain ⟨rfl, rfl, rfl⟩ := hcs
    exact ⟨[], .inl ⟨rfl, rfl, rfl, rfl⟩⟩
  · simp [Value.cells] at hcs
    obtain ⟨rfl, rfl, rfl⟩ := hcs
    rw [if_pos (hsp _)] at hz
    exact ⟨zs, .inr ⟨_, rfl, hl, hz, hcell, hwz⟩⟩
theorem lenOf {H : Type} {enc : TypeId × Value → H} {P : Program} {W : World} {base : Nat} {spare : Nat → Bool} {held : Bool} {t e : TypeId} {a : Option Addr} {len cap : Nat} {d : DataW H} {ps : List MemPlace} {ts : List TypeId} {ds : List (DataW H)} {j : Nat}
    (hsz : (DataW.weightsEach P ts ds).all (· ≤ reachBytes) = true) (ht : ts[j]? = some t) (hd : ds[j]? = some d) (hu : P.underlying t = some (.slice e)) (he : P.underlying e = some (.int .u8)) (hc : P.cellsOf e = 1) (hB : P.bytesOf e = 1)
    (h : DataW.Trod enc P W base spare held t (.slice a len cap) d ps) : len ≤ 140737488351232 := by
  obtain ⟨fuel, hf⟩ := h
  rcases open_ints hu he hc hf with ⟨hcs, _⟩ | ⟨x, l, c, zs, hcs, _, hl, _, hz, hx, _, _⟩
  · simp [Value.cells] at hcs
    omega
  · simp [Value.cells] at hcs
    obtain ⟨rfl, rfl, rfl⟩ := hcs
    obtain ⟨hx, _⟩ := Prod.mk.inj hx
    subst hx
    have z := sized_slice hsz ht hd hu
    rw [hB] at z
    have hl2 : len ≤ zs.length := by
      rw [hz]
      split
      · exact hl
      · exact Nat.le_refl _
    simp only [lits, List.length_map, List.length_take, List.length_drop] at z
    have hr : reachBytes = 140737488351232 := rfl
    omega
end Go.Wt

/- Plays, as both have them. -/
set_option linter.unusedVariables false
set_option linter.unusedSimpArgs false
namespace Go.Proofs.YtmdhfalfppkpeaaGreat
open Go Go.Wt
/-- A play, with its answer. -/
def playR (bad : Int) (evs : List Evt) : Wrld × Bool := if within bad 0 4 && decide (evs.length ≤ 70) then (playF bad evs, true) else (Wrld.zero, false)
theorem rd_zA {G : Gh} {w : Go.World} {ω : Owner} {cs : List Value} (h : Enc.rd G w ω WrldA.zero cs) : Enc.rd G w ω Wrld.zero cs := by
  obtain ⟨c1, c2, rfl, r1, ⟨c3, c4, rfl, r3, r4⟩⟩ := h
  exact ⟨c1, _, rfl, r1, c3, _, rfl, ⟨none, 0, r3, Nat.le_refl _, .inl rfl⟩, r4⟩
theorem rd_zS {G : Gh} {w : Go.World} {ω : Owner} {cs : List Value} (h : Enc.rd G w ω WrldS.zero cs) : Enc.rd G w ω Wrld.zero cs := by
  obtain ⟨c1, c2, rfl, r1, ⟨c3, c4, rfl, r3, ⟨c5, c6, rfl, ⟨a, cap, h1, h2, h3, h4⟩, r6⟩⟩⟩ := h
  exact ⟨c1, _, rfl, r1, c3, _, rfl, ⟨none, 0, r3, Nat.le_refl _, .inl rfl⟩, c5, c6, rfl, ⟨a, cap, h1, h2, h3⟩, r6⟩
theorem tup_zA {G : Gh} {w : Go.World} {ω : Owner} {u : Value} {b : Bool} (h : RelV G w ω (.tup [.v WrldA.zero, .v b]) u) : RelV G w ω (.tup [.v Wrld.zero, .v b]) u := by
  obtain ⟨us, e0, u1, r1, e1, ⟨cs, h1, h2⟩, h3⟩ := h
  exact ⟨us, e0, u1, r1, e1, ⟨cs, rd_zA h1, h2⟩, h3⟩
theorem tup_zS {G : Gh} {w : Go.World} {ω : Owner} {u : Value} {b : Bool} (h : RelV G w ω (.tup [.v WrldS.zero, .v b]) u) : RelV G w ω (.tup [.v Wrld.zero, .v b]) u := by
  obtain ⟨us, e0, u1, r1, e1, ⟨cs, h1, h2⟩, h3⟩ := h
  exact ⟨us, e0, u1, r1, e1, ⟨cs, rd_zS h1, h2⟩, h3⟩
theorem big4 {w : Wrld} (h : w.nodes.length = 4) : w.nodes.length ≤ big := by rw [h]; decide
theorem play4 (bad : Int) (evs : List Evt) : (playF bad evs).nodes.length = 4 := (foldl_ok evs (newW_ok bad)).four
theorem iPlay_ct (bad : Int) (evs : List Evt) : CtP Tryz.prog 16 [.v bad, .v evs] (.tup [.v (playR bad evs).1, .v (playR bad evs).2]) := by
  unfold playR
  cases hb : within bad 0 4 with
  | false => exact Ct.res (playBad_ct bad evs hb) fun G w u h => tup_zA h
  | true =>
    by_cases hl : evs.length ≤ 70
    · simp only [hl, decide_true, Bool.and_self, if_true]
      exact Ct.frz (playA_ct bad evs hb hl) (frz_ok (big4 (play4 bad evs)))
    · simp only [hl, decide_false, Bool.and_false]
      exact Ct.res (playLong_ct bad evs hb (by omega)) fun G w u h => tup_zA h
theorem sWorldNewBad_ct (bad : Int) (hb : within bad 0 4 = false) : CtP Tryz.prog 57 [.v bad] (.tup [.v WrldS.zero, .v false]) := by
  refine Ct.intro Tryz.func57 rfl rfl ?_
  all_goals refine awp_seq (awp_region (id := 0) ?_)
  all_goals refine awpOps_cons (op_alloc (o := 5) z29_WrldS rfl rfl) ?_
  all_goals refine awpOps_cons (op_as rfl (Conv.of rfl) rfl) ?_
  all_goals refine awpOps_nil ?_
  all_goals refine awp_seq (awp_seq (awp_region (id := 1) ?_))
  all_goals refine awpOps_cons (op_mv rfl (Conv.of rfl) rfl) ?_
  all_goals refine awpOps_cons (op_call fb80 (.cons rfl (Conv.of rfl) (.cons rfl (Conv.of rfl) (.cons rfl (Conv.of rfl) (.nil _)))) (l6In_ct _ _ _) (argOk rfl rfl (argOk rfl rfl (argOk rfl rfl argOk0))) rfl rfl) ?_
  all_goals refine awpOps_cons (op_not rfl rfl) ?_
  all_goals refine awpOps_nil ?_
  refine awp_cond rfl (fun h => ?_) (fun h => absurd (not_f h) (by rw [hb]; decide))
  all_goals refine awp_seq (awp_region (id := 2) ?_)
  all_goals refine awpOps_cons (op_build (.nil _) z29_WrldS rfl pl29 rfl) ?_
  all_goals refine awpOps_cons (op_stm ty29_WrldS rfl rfl rfl) ?_
  all_goals refine awpOps_cons (op_as rfl (Conv.of rfl) rfl) ?_
  all_goals refine awpOps_nil ?_
  refine awp_ret ?_
  repeat first | refine rt_seq ?_ | refine rt_block ?_
  exact ⟨_, _, resNM (ol := []) (.cell ty29_WrldS rfl rfl (.keep (.v rfl (Conv.of rfl)) (.nil _))) rfl (fun o ho => absurd (show o ∈ ([] : List Nat) from ho) (by simp)) oln noS, rfl, rfl⟩
theorem sPlayBad_ct (bad : Int) (evs : List Evt) (hb : within bad 0 4 = false) : CtP Tryz.prog 17 [.v bad, .v evs] (.tup [.v WrldS.zero, .v false]) := by
  refine Ct.intro Tryz.func17 rfl rfl ?_
  all_goals refine awp_seq (awp_region (id := 0) ?_)
  all_goals refine awpOps_cons (op_alloc (o := 5) z29_WrldS rfl rfl) ?_
  all_goals refine awpOps_cons (op_as rfl (Conv.of rfl) rfl) ?_
  all_goals refine awpOps_nil ?_
  all_goals refine awp_seq (awp_region (id := 1) ?_)
  all_goals refine awpOps_cons (op_mv rfl (Conv.of rfl) rfl) ?_
  all_goals refine awpOps_cons (op_call fb57 (.cons rfl (Conv.of rfl) (.nil _)) (sWorldNewBad_ct bad hb) (argOk rfl rfl argOk0) rfl rfl) ?_
  all_goals refine awpOps_cons (op_mvo rfl rfl rfl rfl) ?_
  all_goals refine awpOps_cons (op_extm rfl rfl rfl rfl) ?_
  all_goals refine awpOps_cons (op_ext rfl rfl rfl) ?_
  all_goals refine awpOps_cons (op_alloc (o := 0) z29_WrldS rfl rfl) ?_
  all_goals refine awpOps_cons (op_stm ty29_WrldS rfl rfl rfl) ?_
  all_goals refine awpOps_cons (op_as rfl (Conv.of rfl) rfl) ?_
  all_goals refine awpOps_nil ?_
  all_goals refine awp_seq (awp_seq (awp_region (id := 2) ?_))
  all_goals refine awpOps_cons (op_mv rfl (Conv.of rfl) rfl) ?_
  all_goals refine awpOps_cons (op_not rfl rfl) ?_
  all_goals refine awpOps_cons (op_mv rfl (Conv.of rfl) rfl) ?_
  all_goals refine g_lit (t := 16) (b := true) rfl ?_
  all_goals refine awpOps_cons (g_off rfl rfl rfl rfl rfl) ?_
  all_goals refine awpOps_cons (g_off rfl rfl rfl rfl rfl) ?_
  all_goals refine awpOps_cons (g_off rfl rfl rfl rfl rfl) ?_
  all_goals refine awpOps_cons (op_pick rfl rfl rfl rfl) ?_
  all_goals refine awpOps_nil ?_
  refine awp_cond rfl (fun h => ?_) (fun h => absurd h (by decide))
  all_goals refine awp_seq (awp_region (id := 3) ?_)
  all_goals refine awpOps_cons (op_build (.nil _) z29_WrldS rfl pl29 rfl) ?_
  all_goals refine awpOps_cons (op_stm ty29_WrldS rfl rfl rfl) ?_
  all_goals refine awpOps_cons (op_as rfl (Conv.of rfl) rfl) ?_
  all_goals refine awpOps_nil ?_
  refine awp_ret ?_
  repeat first | refine rt_seq ?_ | refine rt_block ?_
  exact ⟨_, _, resNM (ol := []) (.cell ty29_WrldS rfl rfl (.keep (.v rfl (Conv.of rfl)) (.nil _))) rfl (fun o ho => absurd (show o ∈ ([] : List Nat) from ho) (by simp)) oln noS, rfl, rfl⟩
theorem sPlayLong_ct (bad : Int) (evs : List Evt) (hb : within bad 0 4 = true) (hl : 70 < evs.length) : CtP Tryz.prog 17 [.v bad, .v evs] (.tup [.v WrldS.zero, .v false]) := by
  refine Ct.intro Tryz.func17 rfl rfl ?_
  all_goals refine awp_seq (awp_region (id := 0) ?_)
  all_goals refine awpOps_cons (op_alloc (o := 5) z29_WrldS rfl rfl) ?_
  all_goals refine awpOps_cons (op_as rfl (Conv.of rfl) rfl) ?_
  all_goals refine awpOps_nil ?_
  all_goals refine awp_seq (awp_region (id := 1) ?_)
  all_goals refine awpOps_cons (op_mv rfl (Conv.of rfl) rfl) ?_
  refine awpOps_callO [] rfl fb57 (.cons rfl (Conv.of rfl) (.nil _)) (sWorldNew_w bad hb) ols0 oks0 (argOk' rfl rfl argO0) rfl ?_
  rintro r h' ⟨rfl, rfl⟩
  refine ⟨so (newW bad), rfl, (fun o ho => by cases ho), fun o ho _ => ?_, oksk obOkNs oks0, fun o ho => ?_, ?_⟩
  · have : o = 1 := by simpa [keys, lk0] using ho
    subst this; rfl
  · have : o = 1 := by simpa using (show o ∈ [1] from ho)
    subst this; rfl
  all_goals refine awpOps_cons (op_mvo rfl rfl rfl rfl) ?_
  all_goals refine awpOps_cons (op_extm rfl rfl rfl rfl) ?_
  all_goals refine awpOps_cons (op_ext rfl rfl rfl) ?_
  all_goals refine awpOps_cons (op_alloc (o := 0) z29_WrldS rfl rfl) ?_
  all_goals refine awpOps_cons (op_stm ty29_WrldS rfl rfl rfl) ?_
  all_goals refine awpOps_cons (op_as rfl (Conv.of rfl) rfl) ?_
  all_goals refine awpOps_nil ?_
  all_goals refine awp_seq (awp_seq (awp_region (id := 2) ?_))
  all_goals refine awpOps_cons (op_mv rfl (Conv.of rfl) rfl) ?_
  all_goals refine awpOps_cons (op_not rfl rfl) ?_
  all_goals refine awpOps_cons (op_mv rfl (Conv.of rfl) rfl) ?_
  all_goals refine g_lit (t := 16) (b := false) rfl ?_
  all_goals refine awpOps_cons (g_on rfl rfl rfl (op_mv rfl (Conv.of rfl) rfl)) ?_
  all_goals refine awpOps_cons (g_on rfl rfl rfl (op_len sl23 rfl rfl)) ?_
  all_goals refine awpOps_cons (g_on rfl rfl rfl (op_gtr rfl rfl rfl)) ?_
  all_goals refine awpOps_cons (op_pick rfl rfl rfl rfl) ?_
  all_goals refine awpOps_nil ?_
  refine awp_cond rfl (fun h => ?_) (fun h => ?_)
  · all_goals refine awp_seq (awp_region (id := 3) ?_)
    all_goals refine awpOps_cons (op_build (.nil _) z29_WrldS rfl pl29 rfl) ?_
    all_goals refine awpOps_cons (op_stm ty29_WrldS rfl rfl rfl) ?_
    all_goals refine awpOps_cons (op_as rfl (Conv.of rfl) rfl) ?_
    all_goals refine awpOps_nil ?_
    refine awp_ret ?_
    repeat first | refine rt_seq ?_ | refine rt_block ?_
    exact ⟨_, _, resNM (ol := []) (.cell ty29_WrldS rfl rfl (.keep (.v rfl (Conv.of rfl)) (.nil _))) rfl (fun o ho => absurd (show o ∈ ([] : List Nat) from ho) (by simp)) oln noS, rfl, rfl⟩
  · exfalso
    simp at h
    omega
theorem sPlayR_ct (bad : Int) (evs : List Evt) : CtP Tryz.prog 17 [.v bad, .v evs] (.tup [.v (playR bad evs).1, .v (playR bad evs).2]) := by
  unfold playR
  cases hb : within bad 0 4 with
  | false => exact Ct.res (sPlayBad_ct bad evs hb) fun G w u h => tup_zS h
  | true =>
    by_cases hl : evs.length ≤ 70
    · simp only [hl, decide_true, Bool.and_self, if_true]
      exact sPlay_ct bad evs hb hl
    · simp only [hl, decide_false, Bool.and_false]
      exact Ct.res (sPlayLong_ct bad evs hb (by omega)) fun G w u h => tup_zS h
theorem playR_ok {bad : Int} {evs : List Evt} (h : (playR bad evs).2 = true) : within bad 0 4 = true ∧ evs.length ≤ 70 ∧ (playR bad evs).1 = playF bad evs := by
  unfold playR at h ⊢
  split at h
  · rename_i hh
    simp only [Bool.and_eq_true, decide_eq_true_eq] at hh
    rw [if_pos (by simp [hh.1, hh.2])]
    exact ⟨hh.1, hh.2, rfl⟩
  · cases h
end Go.Proofs.YtmdhfalfppkpeaaGreat

/- The program's words for outsiders. -/
set_option linter.unusedVariables false
set_option linter.unusedSimpArgs false
namespace Go.Proofs.YtmdhfalfppkpeaaGreat
open Go Go.Wt
theorem gdOf {l : List Vote} (ho : votesOk l = true) (hl : l.length ≤ 1000) : Gd l := ⟨hl, votesOk_mem ho⟩
theorem treeLong_ct (l : List Vote) (ho : votesOk l = true) (hl : l.length ≤ 1000) : CtP Tryz.prog 45 [.v l] (.v ((tipOf l).length : Int)) := by
  have hg := gdOf ho hl
  refine Ct.intro Tryz.func45 rfl rfl ?_
  all_goals first | refine awp_seq (awp_region (id := 0) ?_) | refine awp_seq (awp_seq (awp_region (id := 0) ?_)) | refine awp_region (id := 0) ?_ | refine awp_seq (awp_seq (awp_seq (awp_region (id := 0) ?_)))
  all_goals refine awpOps_cons (op_as rfl (Conv.of rfl) rfl) ?_
  all_goals refine awpOps_nil ?_
  all_goals first | refine awp_seq (awp_region (id := 1) ?_) | refine awp_seq (awp_seq (awp_region (id := 1) ?_)) | refine awp_region (id := 1) ?_ | refine awp_seq (awp_seq (awp_seq (awp_region (id := 1) ?_)))
  all_goals first | refine awpOps_cons (op_mv rfl (Conv.of rfl) rfl) ?_ | refine awpOps_cons (op_mvl rfl rfl rfl rfl) ?_ | refine awpOps_cons (op_mvo rfl rfl rfl rfl) ?_
  all_goals refine awpOps_cons (op_call fb59 (.cons rfl (Conv.of rfl) (.nil _)) (votesOk_ct _) (argOk rfl rfl argOk0) rfl rfl) ?_
  all_goals refine awpOps_cons (op_not rfl rfl) ?_
  all_goals refine awpOps_nil ?_
  first | refine awp_seq (awp_cond rfl (fun h => absurd (not_t h) (by rw [ho]; decide)) (fun h => ?_)) | refine awp_seq (awp_seq (awp_cond rfl (fun h => absurd (not_t h) (by rw [ho]; decide)) (fun h => ?_))) | refine awp_cond rfl (fun h => absurd (not_t h) (by rw [ho]; decide)) (fun h => ?_) | refine awp_seq (awp_seq (awp_seq (awp_cond rfl (fun h => absurd (not_t h) (by rw [ho]; decide)) (fun h => ?_))))
  refine awp_skip ?_
  all_goals first | refine awp_seq (awp_region (id := 3) ?_) | refine awp_seq (awp_seq (awp_region (id := 3) ?_)) | refine awp_region (id := 3) ?_ | refine awp_seq (awp_seq (awp_seq (awp_region (id := 3) ?_)))
  all_goals first | refine awpOps_cons (op_mv rfl (Conv.of rfl) rfl) ?_ | refine awpOps_cons (op_mvl rfl rfl rfl rfl) ?_ | refine awpOps_cons (op_mvo rfl rfl rfl rfl) ?_
  all_goals refine awpOps_cons (op_call fb108 (.cons rfl (Conv.of rfl) (.nil _)) (tip_ct _ hg.l hg.v) (argOk rfl rfl argOk0) rfl rfl) ?_
  all_goals first | refine awpOps_cons (op_len sl34 rfl rfl) ?_ | refine awpOps_cons (op_lenA sl34 rfl rfl rfl) ?_
  all_goals first | refine awpOps_cons (op_as rfl (Conv.of rfl) rfl) ?_ | refine awpOps_cons (op_asl rfl rfl rfl rfl) ?_ | refine awpOps_cons (op_aso rfl rfl rfl rfl) ?_
  all_goals refine awpOps_nil ?_
  refine awp_ret ?_
  repeat first | refine rt_seq ?_ | refine rt_block ?_
  exact finP (.v rfl (Conv.of rfl)) rfl rfl
theorem treeFinal_ct (l : List Vote) (ho : votesOk l = true) (hl : l.length ≤ 1000) : CtP Tryz.prog 20 [.v l] (.v (CList.mk (finalOf l))) := by
  have hg := gdOf ho hl
  refine Ct.intro Tryz.func20 rfl rfl ?_
  all_goals first | refine awp_seq (awp_region (id := 0) ?_) | refine awp_seq (awp_seq (awp_region (id := 0) ?_)) | refine awp_region (id := 0) ?_ | refine awp_seq (awp_seq (awp_seq (awp_region (id := 0) ?_)))
  all_goals refine awpOps_cons (op_as rfl (Conv.of rfl) rfl) ?_
  all_goals refine awpOps_nil ?_
  all_goals first | refine awp_seq (awp_region (id := 1) ?_) | refine awp_seq (awp_seq (awp_region (id := 1) ?_)) | refine awp_region (id := 1) ?_ | refine awp_seq (awp_seq (awp_seq (awp_region (id := 1) ?_)))
  all_goals first | refine awpOps_cons (op_mv rfl (Conv.of rfl) rfl) ?_ | refine awpOps_cons (op_mvl rfl rfl rfl rfl) ?_ | refine awpOps_cons (op_mvo rfl rfl rfl rfl) ?_
  all_goals refine awpOps_cons (op_call fb59 (.cons rfl (Conv.of rfl) (.nil _)) (votesOk_ct _) (argOk rfl rfl argOk0) rfl rfl) ?_
  all_goals refine awpOps_cons (op_not rfl rfl) ?_
  all_goals refine awpOps_nil ?_
  first | refine awp_seq (awp_cond rfl (fun h => absurd (not_t h) (by rw [ho]; decide)) (fun h => ?_)) | refine awp_seq (awp_seq (awp_cond rfl (fun h => absurd (not_t h) (by rw [ho]; decide)) (fun h => ?_))) | refine awp_cond rfl (fun h => absurd (not_t h) (by rw [ho]; decide)) (fun h => ?_) | refine awp_seq (awp_seq (awp_seq (awp_cond rfl (fun h => absurd (not_t h) (by rw [ho]; decide)) (fun h => ?_))))
  refine awp_skip ?_
  all_goals first | refine awp_seq (awp_region (id := 3) ?_) | refine awp_seq (awp_seq (awp_region (id := 3) ?_)) | refine awp_region (id := 3) ?_ | refine awp_seq (awp_seq (awp_seq (awp_region (id := 3) ?_)))
  all_goals first | refine awpOps_cons (op_mv rfl (Conv.of rfl) rfl) ?_ | refine awpOps_cons (op_mvl rfl rfl rfl rfl) ?_ | refine awpOps_cons (op_mvo rfl rfl rfl rfl) ?_
  all_goals refine awpOps_cons (op_call fb66 (.cons rfl (Conv.of rfl) (.nil _)) (vfinal_ct _ hg.l hg.v hg.e) (argOk rfl rfl argOk0) rfl rfl) ?_
  all_goals first | refine awpOps_cons (op_as rfl (Conv.of rfl) rfl) ?_ | refine awpOps_cons (op_asl rfl rfl rfl rfl) ?_ | refine awpOps_cons (op_aso rfl rfl rfl rfl) ?_
  all_goals refine awpOps_nil ?_
  refine awp_ret ?_
  repeat first | refine rt_seq ?_ | refine rt_block ?_
  exact finP (.v rfl (Conv.of rfl)) rfl rfl
theorem begins_ct (a b : List Itm) : CtP Tryz.prog 125 [.v a, .v b] (.v (inS a b)) := by
  refine Ct.intro Tryz.func125 rfl rfl ?_
  all_goals first | refine awp_seq (awp_region (id := 0) ?_) | refine awp_seq (awp_seq (awp_region (id := 0) ?_)) | refine awp_region (id := 0) ?_ | refine awp_seq (awp_seq (awp_seq (awp_region (id := 0) ?_)))
  all_goals refine awpOps_cons (op_as rfl (Conv.of rfl) rfl) ?_
  all_goals refine awpOps_nil ?_
  all_goals first | refine awp_seq (awp_region (id := 1) ?_) | refine awp_seq (awp_seq (awp_region (id := 1) ?_)) | refine awp_region (id := 1) ?_ | refine awp_seq (awp_seq (awp_seq (awp_region (id := 1) ?_)))
  all_goals first | refine awpOps_cons (op_mv rfl (Conv.of rfl) rfl) ?_ | refine awpOps_cons (op_mvl rfl rfl rfl rfl) ?_ | refine awpOps_cons (op_mvo rfl rfl rfl rfl) ?_
  all_goals first | refine awpOps_cons (op_len sl34 rfl rfl) ?_ | refine awpOps_cons (op_lenA sl34 rfl rfl rfl) ?_
  all_goals first | refine awpOps_cons (op_mv rfl (Conv.of rfl) rfl) ?_ | refine awpOps_cons (op_mvl rfl rfl rfl rfl) ?_ | refine awpOps_cons (op_mvo rfl rfl rfl rfl) ?_
  all_goals first | refine awpOps_cons (op_len sl34 rfl rfl) ?_ | refine awpOps_cons (op_lenA sl34 rfl rfl rfl) ?_
  all_goals refine awpOps_cons (op_leq rfl rfl rfl) ?_
  all_goals first | refine awpOps_cons (op_mv rfl (Conv.of rfl) rfl) ?_ | refine awpOps_cons (op_mvl rfl rfl rfl rfl) ?_ | refine awpOps_cons (op_mvo rfl rfl rfl rfl) ?_
  all_goals first | refine g_lit (t := 10) (b := true) rfl ?_ | refine g_lit (t := 10) (b := false) rfl ?_ | refine g_ulit (t := 10) rfl ?_ | refine g_split (t := 10) rfl (fun h => ?_) (fun h => ?_)
  all_goals first | refine awpOps_cons (g_off rfl rfl rfl rfl rfl) ?_ | refine awpOps_cons (g_und rfl rfl rfl) ?_ | refine awpOps_cons (g_on rfl rfl rfl (op_mv rfl (Conv.of rfl) rfl)) ?_ | refine awpOps_cons (g_on rfl rfl rfl (op_mvl rfl rfl rfl rfl)) ?_ | refine awpOps_cons (g_on rfl rfl rfl (op_mvo rfl rfl rfl rfl)) ?_
  all_goals first | refine awpOps_cons (g_off rfl rfl rfl rfl rfl) ?_ | refine awpOps_cons (g_und rfl rfl rfl) ?_ | refine awpOps_cons (g_on rfl rfl rfl (op_mv rfl (Conv.of rfl) rfl)) ?_ | refine awpOps_cons (g_on rfl rfl rfl (op_mvl rfl rfl rfl rfl)) ?_ | refine awpOps_cons (g_on rfl rfl rfl (op_mvo rfl rfl rfl rfl)) ?_
  all_goals first | refine awpOps_cons (g_off rfl rfl rfl rfl rfl) ?_ | refine awpOps_cons (g_und rfl rfl rfl) ?_ | refine awpOps_cons (g_on rfl rfl rfl (op_mv rfl (Conv.of rfl) rfl)) ?_ | refine awpOps_cons (g_on rfl rfl rfl (op_mvl rfl rfl rfl rfl)) ?_ | refine awpOps_cons (g_on rfl rfl rfl (op_mvo rfl rfl rfl rfl)) ?_
  all_goals first | refine awpOps_cons (g_off rfl rfl rfl rfl rfl) ?_ | refine awpOps_cons (g_und rfl rfl rfl) ?_ | refine awpOps_cons (g_on rfl rfl rfl (op_len sl34 rfl rfl)) ?_ | refine awpOps_cons (g_on rfl rfl rfl (op_lenA sl34 rfl rfl rfl)) ?_
  all_goals first | refine awpOps_cons (g_off rfl rfl rfl rfl rfl) ?_ | refine awpOps_cons (g_und rfl rfl rfl) ?_ | refine awpOps_cons (g_on rfl rfl rfl (op_slh sl34 rfl rfl rfl ⟨by omega, by (have := of_decide_eq_true h; simp_all)⟩)) ?_
  all_goals first | refine awpOps_cons (g_off rfl rfl rfl rfl rfl) ?_ | refine awpOps_cons (g_und rfl rfl rfl) ?_ | refine awpOps_cons (g_on rfl rfl rfl (op_call fb162 (.cons rfl (Conv.of rfl) (.cons rfl (Conv.of rfl) (.nil _))) (equal_ct _ _) (argOk rfl rfl (argOk rfl rfl argOk0)) rfl rfl)) ?_
  all_goals refine awpOps_cons (op_pick rfl rfl rfl rfl) ?_
  all_goals first | refine awpOps_cons (op_as rfl (Conv.of rfl) rfl) ?_ | refine awpOps_cons (op_asl rfl rfl rfl rfl) ?_ | refine awpOps_cons (op_aso rfl rfl rfl rfl) ?_
  all_goals refine awpOps_nil ?_
  all_goals refine awp_ret ?_
  all_goals refine finP (.v rfl (Conv.of rfl)) rfl ?_
  all_goals (show AV.v _ = AV.v _; congr 1; unfold inS; simp_all; try (intro hh; omega))
theorem chainIn_ct (a b : List Itm) : CtP Tryz.prog 70 [.v a, .v b] (.v (chIn a b)) := by
  refine Ct.intro Tryz.func70 rfl rfl ?_
  all_goals first | refine awp_seq (awp_region (id := 0) ?_) | refine awp_seq (awp_seq (awp_region (id := 0) ?_)) | refine awp_region (id := 0) ?_ | refine awp_seq (awp_seq (awp_seq (awp_region (id := 0) ?_)))
  all_goals refine awpOps_cons (op_as rfl (Conv.of rfl) rfl) ?_
  all_goals refine awpOps_nil ?_
  all_goals first | refine awp_seq (awp_region (id := 1) ?_) | refine awp_seq (awp_seq (awp_region (id := 1) ?_)) | refine awp_region (id := 1) ?_ | refine awp_seq (awp_seq (awp_seq (awp_region (id := 1) ?_)))
  all_goals first | refine awpOps_cons (op_mv rfl (Conv.of rfl) rfl) ?_ | refine awpOps_cons (op_mvl rfl rfl rfl rfl) ?_ | refine awpOps_cons (op_mvo rfl rfl rfl rfl) ?_
  all_goals refine awpOps_cons (op_call fb92 (.cons rfl (Conv.of rfl) (.nil _)) (chainOk_ct _) (argOk rfl rfl argOk0) rfl rfl) ?_
  all_goals first | refine awpOps_cons (op_mv rfl (Conv.of rfl) rfl) ?_ | refine awpOps_cons (op_mvl rfl rfl rfl rfl) ?_ | refine awpOps_cons (op_mvo rfl rfl rfl rfl) ?_
  all_goals first | refine g_lit (t := 7) (b := true) rfl ?_ | refine g_lit (t := 7) (b := false) rfl ?_ | refine g_ulit (t := 7) rfl ?_ | refine g_split (t := 7) rfl (fun h => ?_) (fun h => ?_)
  all_goals first | refine awpOps_cons (g_off rfl rfl rfl rfl rfl) ?_ | refine awpOps_cons (g_und rfl rfl rfl) ?_ | refine awpOps_cons (g_on rfl rfl rfl (op_mv rfl (Conv.of rfl) rfl)) ?_ | refine awpOps_cons (g_on rfl rfl rfl (op_mvl rfl rfl rfl rfl)) ?_ | refine awpOps_cons (g_on rfl rfl rfl (op_mvo rfl rfl rfl rfl)) ?_
  all_goals first | refine awpOps_cons (g_off rfl rfl rfl rfl rfl) ?_ | refine awpOps_cons (g_und rfl rfl rfl) ?_ | refine awpOps_cons (g_on rfl rfl rfl (op_call fb92 (.cons rfl (Conv.of rfl) (.nil _)) (chainOk_ct _) (argOk rfl rfl argOk0) rfl rfl)) ?_
  all_goals refine awpOps_cons (op_pick rfl rfl rfl rfl) ?_
  all_goals first | refine awpOps_cons (op_mv rfl (Conv.of rfl) rfl) ?_ | refine awpOps_cons (op_mvl rfl rfl rfl rfl) ?_ | refine awpOps_cons (op_mvo rfl rfl rfl rfl) ?_
  all_goals first | refine g_lit (t := 11) (b := true) rfl ?_ | refine g_lit (t := 11) (b := false) rfl ?_ | refine g_ulit (t := 11) rfl ?_ | refine g_split (t := 11) rfl (fun h => ?_) (fun h => ?_)
  all_goals first | refine awpOps_cons (g_off rfl rfl rfl rfl rfl) ?_ | refine awpOps_cons (g_und rfl rfl rfl) ?_ | refine awpOps_cons (g_on rfl rfl rfl (op_mv rfl (Conv.of rfl) rfl)) ?_ | refine awpOps_cons (g_on rfl rfl rfl (op_mvl rfl rfl rfl rfl)) ?_ | refine awpOps_cons (g_on rfl rfl rfl (op_mvo rfl rfl rfl rfl)) ?_
  all_goals first | refine awpOps_cons (g_off rfl rfl rfl rfl rfl) ?_ | refine awpOps_cons (g_und rfl rfl rfl) ?_ | refine awpOps_cons (g_on rfl rfl rfl (op_mv rfl (Conv.of rfl) rfl)) ?_ | refine awpOps_cons (g_on rfl rfl rfl (op_mvl rfl rfl rfl rfl)) ?_ | refine awpOps_cons (g_on rfl rfl rfl (op_mvo rfl rfl rfl rfl)) ?_
  all_goals first | refine awpOps_cons (g_off rfl rfl rfl rfl rfl) ?_ | refine awpOps_cons (g_und rfl rfl rfl) ?_ | refine awpOps_cons (g_on rfl rfl rfl (op_call fb125 (.cons rfl (Conv.of rfl) (.cons rfl (Conv.of rfl) (.nil _))) (begins_ct _ _) (argOk rfl rfl (argOk rfl rfl argOk0)) rfl rfl)) ?_
  all_goals refine awpOps_cons (op_pick rfl rfl rfl rfl) ?_
  all_goals first | refine awpOps_cons (op_as rfl (Conv.of rfl) rfl) ?_ | refine awpOps_cons (op_asl rfl rfl rfl rfl) ?_ | refine awpOps_cons (op_aso rfl rfl rfl rfl) ?_
  all_goals refine awpOps_nil ?_
  all_goals refine awp_ret ?_
  all_goals refine finP (.v rfl (Conv.of rfl)) rfl ?_
  all_goals (show AV.v _ = AV.v _; congr 1; unfold chIn; simp_all)
theorem lwFits_ct (a b : List Itm) : CtP Tryz.prog 24 [.v a, .v b] (.v (fitsB a b)) := by
  refine Ct.intro Tryz.func24 rfl rfl ?_
  all_goals first | refine awp_seq (awp_region (id := 0) ?_) | refine awp_seq (awp_seq (awp_region (id := 0) ?_)) | refine awp_region (id := 0) ?_ | refine awp_seq (awp_seq (awp_seq (awp_region (id := 0) ?_)))
  all_goals refine awpOps_cons (op_as rfl (Conv.of rfl) rfl) ?_
  all_goals refine awpOps_nil ?_
  all_goals first | refine awp_seq (awp_region (id := 1) ?_) | refine awp_seq (awp_seq (awp_region (id := 1) ?_)) | refine awp_region (id := 1) ?_ | refine awp_seq (awp_seq (awp_seq (awp_region (id := 1) ?_)))
  all_goals first | refine awpOps_cons (op_mv rfl (Conv.of rfl) rfl) ?_ | refine awpOps_cons (op_mvl rfl rfl rfl rfl) ?_ | refine awpOps_cons (op_mvo rfl rfl rfl rfl) ?_
  all_goals first | refine awpOps_cons (op_mv rfl (Conv.of rfl) rfl) ?_ | refine awpOps_cons (op_mvl rfl rfl rfl rfl) ?_ | refine awpOps_cons (op_mvo rfl rfl rfl rfl) ?_
  all_goals refine awpOps_cons (op_call fb70 (.cons rfl (Conv.of rfl) (.cons rfl (Conv.of rfl) (.nil _))) (chainIn_ct _ _) (argOk rfl rfl (argOk rfl rfl argOk0)) rfl rfl) ?_
  all_goals first | refine awpOps_cons (op_mv rfl (Conv.of rfl) rfl) ?_ | refine awpOps_cons (op_mvl rfl rfl rfl rfl) ?_ | refine awpOps_cons (op_mvo rfl rfl rfl rfl) ?_
  all_goals first | refine g_lit (t := 8) (b := true) rfl ?_ | refine g_lit (t := 8) (b := false) rfl ?_ | refine g_ulit (t := 8) rfl ?_ | refine g_split (t := 8) rfl (fun h => ?_) (fun h => ?_)
  all_goals first | refine awpOps_cons (g_off rfl rfl rfl rfl rfl) ?_ | refine awpOps_cons (g_und rfl rfl rfl) ?_ | refine awpOps_cons (g_on rfl rfl rfl (op_mv rfl (Conv.of rfl) rfl)) ?_ | refine awpOps_cons (g_on rfl rfl rfl (op_mvl rfl rfl rfl rfl)) ?_ | refine awpOps_cons (g_on rfl rfl rfl (op_mvo rfl rfl rfl rfl)) ?_
  all_goals first | refine awpOps_cons (g_off rfl rfl rfl rfl rfl) ?_ | refine awpOps_cons (g_und rfl rfl rfl) ?_ | refine awpOps_cons (g_on rfl rfl rfl (op_mv rfl (Conv.of rfl) rfl)) ?_ | refine awpOps_cons (g_on rfl rfl rfl (op_mvl rfl rfl rfl rfl)) ?_ | refine awpOps_cons (g_on rfl rfl rfl (op_mvo rfl rfl rfl rfl)) ?_
  all_goals first | refine awpOps_cons (g_off rfl rfl rfl rfl rfl) ?_ | refine awpOps_cons (g_und rfl rfl rfl) ?_ | refine awpOps_cons (g_on rfl rfl rfl (op_call fb70 (.cons rfl (Conv.of rfl) (.cons rfl (Conv.of rfl) (.nil _))) (chainIn_ct _ _) (argOk rfl rfl (argOk rfl rfl argOk0)) rfl rfl)) ?_
  all_goals refine awpOps_cons (op_pick rfl rfl rfl rfl) ?_
  all_goals first | refine awpOps_cons (op_as rfl (Conv.of rfl) rfl) ?_ | refine awpOps_cons (op_asl rfl rfl rfl rfl) ?_ | refine awpOps_cons (op_aso rfl rfl rfl rfl) ?_
  all_goals refine awpOps_nil ?_
  all_goals refine awp_ret ?_
  all_goals refine finP (.v rfl (Conv.of rfl)) rfl ?_
  all_goals (show AV.v _ = AV.v _; congr 1; unfold fitsB; simp_all)
end Go.Proofs.YtmdhfalfppkpeaaGreat

/- Worlds in form; what happens in a world, for outsiders. -/
set_option linter.unusedVariables false
set_option linter.unusedSimpArgs false
namespace Go.Proofs.YtmdhfalfppkpeaaGreat
open Go Go.Wt
theorem shown_w_ct (v : Vote) (hO : Nat → Wt.Obj) (w : Wrld) (ho : hO 0 = .cell w) (hf : hO 9 = .free) (hH : ∀ o, obOk (pH hO) (hO o)) :
    Ct Tryz.prog 69 [.box 0 (IsLens.whole Wrld), .v v] hO (fun r1 h1 => r1 = .v (shownB w v) ∧ h1 = hO) := by
  refine Ct.intro Tryz.func69 rfl rfl ?_
  all_goals refine awp_seq (awp_region (id := 0) ?_)
  all_goals refine awpOps_cons (op_box (o := 9) ty48 rfl (Conv.of rfl) hf rfl) ?_
  all_goals refine awpOps_cons (op_as rfl (Conv.of rfl) rfl) ?_
  all_goals refine awpOps_nil ?_
  all_goals refine awp_seq (dr_start (id := 1) ?_)
  all_goals refine dr_cons (op_fab f48_0 rfl rfl) ?_
  all_goals refine dr_cons (op_ld ty3 rfl rfl rfl) ?_
  all_goals refine dr_cons (op_mv rfl (Conv.of rfl) rfl) ?_
  all_goals refine dr_cons (op_nilc_box rfl rfl) ?_
  all_goals refine dr_cons (op_fab f29_3 rfl rfl) ?_
  all_goals refine dr_cons (op_ld ty3 rfl ho rfl) ?_
  all_goals refine dr_cons (op_eql rfl rfl rfl) ?_
  all_goals refine dr_cons (op_mv rfl (Conv.of rfl) rfl) ?_
  all_goals refine dr_split (t := 12) rfl (fun h => ?_) (fun h => ?_)
  all_goals first | refine dr_cons (g_off rfl rfl rfl rfl rfl) ?_ | refine dr_cons (g_on rfl rfl rfl (op_mv rfl (Conv.of rfl) rfl)) ?_
  all_goals first | refine dr_cons (g_off rfl rfl rfl rfl rfl) ?_ | refine dr_cons (g_on rfl rfl rfl (op_nilc_box rfl rfl)) ?_
  all_goals first | refine dr_cons (g_off rfl rfl rfl rfl rfl) ?_ | refine dr_cons (g_on rfl rfl rfl (op_fab f29_2 rfl rfl)) ?_
  all_goals first | refine dr_cons (g_off rfl rfl rfl rfl rfl) ?_ | refine dr_cons (g_on rfl rfl rfl (op_ld ty27 rfl ho rfl)) ?_
  all_goals first | refine dr_cons (g_off rfl rfl rfl rfl rfl) ?_ | refine dr_cons (g_on rfl rfl rfl (op_ld ty48 rfl rfl rfl)) ?_
  all_goals first | refine dr_cons (g_off rfl rfl rfl rfl rfl) ?_ | refine dr_cons (g_on rfl rfl rfl (op_call fb120 (.cons rfl (Conv.of rfl) (.cons rfl (Conv.of rfl) (.nil _))) (has_ct _ _) (argOk rfl rfl (argOk rfl rfl argOk0)) rfl rfl)) ?_
  all_goals refine dr_cons (op_pick rfl rfl rfl rfl) ?_
  all_goals refine dr_cons (op_as rfl (Conv.of rfl) rfl) ?_
  all_goals refine dr_nil mixed rfl ?_
  all_goals refine awp_ret ?_
  all_goals refine finF (.v rfl (Conv.of rfl)) rfl ?_ (by intro o ho; by_cases e : o = 9 <;> first | (exfalso; subst e; rw [hf] at ho; exact absurd ho (by decide)) | simp only [st0, St.upd, lk, orr, if_neg e]) hH
  all_goals (simp_all [FV.av, shownB])
theorem okFn_ct (v : Vote) (hO : Nat → Wt.Obj) (w : Wrld) (ho : hO 0 = .cell w) (hf : hO 8 = .free) (hf9 : hO 9 = .free) (hH : ∀ o, obOk (pH hO) (hO o)) :
    Ct Tryz.prog 85 [.v v, .box 0 (IsLens.whole Wrld)] hO (fun r1 h1 => r1 = .v (!shownB w v) ∧ h1 = hO) := by
  refine Ct.intro Tryz.func85 rfl rfl ?_
  all_goals refine awp_seq (awp_region (id := 0) ?_)
  all_goals refine awpOps_cons (op_box (o := 8) ty48 rfl (Conv.of rfl) hf rfl) ?_
  all_goals refine awpOps_cons (op_as rfl (Conv.of rfl) rfl) ?_
  all_goals refine awpOps_nil ?_
  have hH' : ∀ o, obOk (pH (fun o => orr (lk [(8, Wt.Obj.cell v)] o) (hO o))) (orr (lk [(8, Wt.Obj.cell v)] o) (hO o)) := fun o => by
    by_cases e : o = 8
    · subst e; exact plain_refs _
    · have := hH o
      simp only [lk, if_neg e, orr]
      cases hx : hO o with
      | free => trivial
      | dead => trivial
      | cell x =>
        rw [hx] at this
        intro o' h'
        have h2 := this o' h'
        unfold pH at h2 ⊢
        by_cases e' : o' = 8
        · subst e'; rfl
        · simpa [lk, e', orr] using h2
      | arr xs =>
        rw [hx] at this
        intro x hx' o' h'
        have h2 := this x hx' o' h'
        unfold pH at h2 ⊢
        by_cases e' : o' = 8
        · subst e'; rfl
        · simpa [lk, e', orr] using h2
  all_goals refine awp_seq (awp_region (id := 1) ?_)
  all_goals refine awpOps_cons (op_ld ty48 rfl rfl rfl) ?_
  all_goals refine awpOps_callH (h := fun o => orr (lk [(8, Wt.Obj.cell v)] o) (hO o)) rfl (fb69) (.cons rfl (Conv.of rfl) (.cons rfl (Conv.of rfl) (.nil _))) rfl (shown_w_ct v _ w (by simpa [lk, orr] using ho) (by simpa [lk, orr] using hf9) hH') (Hand.none (Hand.l1 ⟨rfl, fun o ho' => by simp [AV.refs] at ho'; subst ho'; simp [pH, lk, orr, ho, isFree]⟩ (Hand.l1 (Hand.of rfl rfl) Hand.l0))) hH' rfl rfl ?_
  all_goals refine awpOps_cons (op_not rfl rfl) ?_
  all_goals refine awpOps_cons (op_as rfl (Conv.of rfl) rfl) ?_
  all_goals refine awpOps_nil ?_
  all_goals refine awp_ret ?_
  all_goals refine finF (.v rfl (Conv.of rfl)) rfl rfl (by intro o ho'; by_cases e : o = 8 <;> first | (exfalso; subst e; rw [hf] at ho'; exact absurd ho' (by decide)) | simp only [st0, St.upd, lk, orr, if_neg e]) hH
set_option maxHeartbeats 2000000 in
theorem worldOk_ct (w : Wrld) : CtP Tryz.prog 30 [.v w] (.v (worldOk w)) := by
  refine Ct.intro Tryz.func30 rfl rfl ?_
  all_goals refine awp_seq (awp_region (id := 0) ?_)
  all_goals refine awpOps_cons (op_box (o := 0) ty29 rfl (Conv.of rfl) rfl rfl) ?_
  all_goals refine awpOps_cons (op_as rfl (Conv.of rfl) rfl) ?_
  all_goals refine awpOps_nil ?_
  refine awp_seq (awp_seq_to (s' := mkSt 63 [(1, .box 0 (IsLens.whole Wrld)), (32, .v (!worldOk0 w))] [(0, .cell w)]) ?_ ?_)
  · all_goals refine awp_region (id := 1) ?_
    all_goals refine awpOps_cons (op_fab f29_0 rfl rfl) ?_
    all_goals refine awpOps_cons (op_ld ty3 rfl rfl rfl) ?_
    all_goals refine awpOps_cons (op_call fb83 (.cons rfl (Conv.of rfl) (.cons rfl (Conv.of rfl) (.cons rfl (Conv.of rfl) (.nil _)))) (within_ct _ _ _) (argOk rfl rfl (argOk rfl rfl (argOk rfl rfl argOk0))) rfl rfl) ?_
    all_goals refine awpOps_cons (op_not rfl rfl) ?_
    all_goals refine awpOps_cons (op_mv rfl (Conv.of rfl) rfl) ?_
    all_goals refine g_split (t := 9) rfl (fun h => ?_) (fun h => ?_)
    all_goals first | refine awpOps_cons (g_off rfl rfl rfl rfl rfl) ?_ | refine awpOps_cons (g_on rfl rfl rfl (op_fab f29_3 rfl rfl)) ?_
    all_goals first | refine awpOps_cons (g_off rfl rfl rfl rfl rfl) ?_ | refine awpOps_cons (g_on rfl rfl rfl (op_ld ty3 rfl rfl rfl)) ?_
    all_goals first | refine awpOps_cons (g_off rfl rfl rfl rfl rfl) ?_ | refine awpOps_cons (g_on rfl rfl rfl (op_call fb83 (.cons rfl (Conv.of rfl) (.cons rfl (Conv.of rfl) (.cons rfl (Conv.of rfl) (.nil _)))) (within_ct _ _ _) (argOk rfl rfl (argOk rfl rfl (argOk rfl rfl argOk0))) rfl rfl)) ?_
    all_goals first | refine awpOps_cons (g_off rfl rfl rfl rfl rfl) ?_ | refine awpOps_cons (g_on rfl rfl rfl (op_not rfl rfl)) ?_
    all_goals refine awpOps_cons (op_pick rfl rfl rfl rfl) ?_
    all_goals refine awpOps_cons (op_mv rfl (Conv.of rfl) rfl) ?_
    all_goals first | refine g_lit (t := 15) (b := true) rfl ?_ | refine g_split (t := 15) rfl (fun h => ?_) (fun h => ?_)
    all_goals first | refine awpOps_cons (g_off rfl rfl rfl rfl rfl) ?_ | refine awpOps_cons (g_on rfl rfl rfl (op_fab f29_1 rfl rfl)) ?_
    all_goals first | refine awpOps_cons (g_off rfl rfl rfl rfl rfl) ?_ | refine awpOps_cons (g_on rfl rfl rfl (op_ld ty26 rfl rfl rfl)) ?_
    all_goals first | refine awpOps_cons (g_off rfl rfl rfl rfl rfl) ?_ | refine awpOps_cons (g_on rfl rfl rfl (op_len sl26 rfl rfl)) ?_
    all_goals first | refine awpOps_cons (g_off rfl rfl rfl rfl rfl) ?_ | refine awpOps_cons (g_on rfl rfl rfl (op_neq rfl rfl rfl)) ?_
    all_goals refine awpOps_cons (op_pick rfl rfl rfl rfl) ?_
    all_goals refine awpOps_cons (op_mv rfl (Conv.of rfl) rfl) ?_
    all_goals first | refine g_lit (t := 21) (b := true) rfl ?_ | refine g_split (t := 21) rfl (fun h => ?_) (fun h => ?_)
    all_goals first | refine awpOps_cons (g_off rfl rfl rfl rfl rfl) ?_ | refine awpOps_cons (g_on rfl rfl rfl (op_fab f29_2 rfl rfl)) ?_
    all_goals first | refine awpOps_cons (g_off rfl rfl rfl rfl rfl) ?_ | refine awpOps_cons (g_on rfl rfl rfl (op_ld ty27 rfl rfl rfl)) ?_
    all_goals first | refine awpOps_cons (g_off rfl rfl rfl rfl rfl) ?_ | refine awpOps_cons (g_on rfl rfl rfl (op_len sl27 rfl rfl)) ?_
    all_goals first | refine awpOps_cons (g_off rfl rfl rfl rfl rfl) ?_ | refine awpOps_cons (g_on rfl rfl rfl (op_gtr rfl rfl rfl)) ?_
    all_goals refine awpOps_cons (op_pick rfl rfl rfl rfl) ?_
    all_goals refine awpOps_cons (op_mv rfl (Conv.of rfl) rfl) ?_
    all_goals first | refine g_lit (t := 27) (b := true) rfl ?_ | refine g_split (t := 27) rfl (fun h => ?_) (fun h => ?_)
    all_goals first | refine awpOps_cons (g_off rfl rfl rfl rfl rfl) ?_ | refine awpOps_cons (g_on rfl rfl rfl (op_fab f29_2 rfl rfl)) ?_
    all_goals first | refine awpOps_cons (g_off rfl rfl rfl rfl rfl) ?_ | refine awpOps_cons (g_on rfl rfl rfl (op_ld ty27 rfl rfl rfl)) ?_
    all_goals first | refine awpOps_cons (g_off rfl rfl rfl rfl rfl) ?_ | refine awpOps_cons (g_on rfl rfl rfl (op_call fb59 (.cons rfl (Conv.of rfl) (.nil _)) (votesOk_ct _) (argOk rfl rfl argOk0) rfl rfl)) ?_
    all_goals first | refine awpOps_cons (g_off rfl rfl rfl rfl rfl) ?_ | refine awpOps_cons (g_on rfl rfl rfl (op_not rfl rfl)) ?_
    all_goals refine awpOps_cons (op_pick rfl rfl rfl rfl) ?_
    all_goals refine awpOps_nil ?_
    all_goals exact Le.mk rfl (tlb rfl rfl rfl (tle rfl (by (simp_all [worldOk0] <;> omega)) rfl tln)) (olk rfl (by exact obOk_cell) oln) noS
  refine awp_cond rfl (fun h => ?_) (fun h => ?_)
  · all_goals refine awp_seq (awp_region (id := 2) ?_)
    all_goals refine awpOps_cons (op_as rfl (Conv.of rfl) rfl) ?_
    all_goals refine awpOps_nil ?_
    refine awp_ret ?_
    repeat first | refine rt_seq ?_ | refine rt_block ?_
    refine finP (.v rfl (Conv.of rfl)) rfl ?_
    show AV.v false = _
    simp [worldOk, not_t h]
  · have h0 := not_f h
    have heq : worldOk w = nodesOkFrom w w.nodes 0 := by rw [worldOk, h0, Bool.true_and]
    refine awp_skip ?_
    all_goals refine awp_seq (awp_seq (awp_region (id := 3) ?_))
    all_goals refine awpOps_cons (op_fab f29_1 rfl rfl) ?_
    all_goals refine awpOps_cons (op_ld ty26 rfl rfl rfl) ?_
    refine awpOps_bigL 34 rfl (fun hB => ?_)
    all_goals refine awpOps_cons (op_len sl26 rfl rfl) ?_
    all_goals refine awpOps_cons (op_mv rfl (Conv.of rfl) rfl) ?_
    all_goals refine awpOps_nil ?_
    refine awp_block ?_
    refine awp_loop' (fun n_ s => ∃ (k : Nat), ∃ (hn : n_ + k = w.nodes.length), ∃ (hall : worldOk w = nodesOkFrom w (w.nodes.drop k) k), s = mkSt 63 [(1, .box 0 (IsLens.whole Wrld)), (34, .v w.nodes), (35, .v (w.nodes.length : Int)), (36, .v (k : Int))] [(0, .cell w)]) (w.nodes.length) ⟨0, by omega, heq, rfl⟩ (Le.mk rfl (tlb rfl rfl rfl (tle rfl (rfl) rfl (tle rfl (rfl) rfl (tle rfl (rfl) rfl tln)))) (olk rfl (by exact obOk_cell) oln) noS) ?_
    rintro n_ s ⟨k, hn, hall, rfl⟩
    all_goals refine awp_seq (awp_region (id := 4) ?_)
    all_goals refine awpOps_cons (op_lss rfl rfl rfl) ?_
    all_goals refine awpOps_nil ?_
    refine awp_seq (awp_cond rfl (fun h => ?_) (fun h => ?_))
    · have hlt : k < w.nodes.length := by simpa using h
      have hx : w.nodes[k]? = some w.nodes[k] := List.getElem?_eq_getElem hlt
      generalize w.nodes[k] = a at hx
      have hs := nodesOk_drop (w := w) hx
      refine awp_skip ?_
      refine awp_seq (awp_block ?_)
      all_goals refine awp_seq (awp_region (id := 5) ?_)
      all_goals refine awpOps_cons (op_mv rfl (Conv.of rfl) rfl) ?_
      all_goals refine awpOps_cons (op_ix sl26 rfl rfl rfl (by omega) hx) ?_
      all_goals refine awpOps_cons (op_ldr ty41 rfl rfl) ?_
      all_goals refine awpOps_cons (op_alloc (o := 1) z41 rfl rfl) ?_
      all_goals refine awpOps_cons (op_as rfl (Conv.of rfl) rfl) ?_
      all_goals refine awpOps_cons (op_st ty41 rfl rfl (Conv.of rfl) rfl) ?_
      all_goals refine awpOps_nil ?_
      refine awp_seq (awp_seq_to (s' := mkSt 63 [(1, .box 0 (IsLens.whole Wrld)), (4, .box 1 (IsLens.whole Nod)), (34, .v w.nodes), (35, .v (w.nodes.length : Int)), (36, .v (k : Int)), (57, .v (!(nodeOk a && decide (a.id = (k : Int) + 1) && decide (a.epoch = w.epoch))))] [(0, .cell w), (1, .cell a)]) ?_ ?_)
      · all_goals refine awp_region (id := 6) ?_
        all_goals refine awpOps_cons (op_ld ty41 rfl rfl rfl) ?_
        all_goals refine awpOps_cons (op_call fb84 (.cons rfl (Conv.of rfl) (.nil _)) (nodeOk_ct _) (argOk rfl rfl argOk0) rfl rfl) ?_
        all_goals refine awpOps_cons (op_not rfl rfl) ?_
        all_goals refine awpOps_cons (op_mv rfl (Conv.of rfl) rfl) ?_
        all_goals refine g_split (t := 44) rfl (fun h => ?_) (fun h => ?_)
        all_goals first | refine awpOps_cons (g_off rfl rfl rfl rfl rfl) ?_ | refine awpOps_cons (g_on rfl rfl rfl (op_fab f41_0 rfl rfl)) ?_
        all_goals first | refine awpOps_cons (g_off rfl rfl rfl rfl rfl) ?_ | refine awpOps_cons (g_on rfl rfl rfl (op_ld ty3 rfl rfl rfl)) ?_
        all_goals first | refine awpOps_cons (g_off rfl rfl rfl rfl rfl) ?_ | refine awpOps_cons (g_on rfl rfl rfl (op_mv rfl (Conv.of rfl) rfl)) ?_
        all_goals first | refine awpOps_cons (g_off rfl rfl rfl rfl rfl) ?_ | refine awpOps_cons (g_on rfl rfl rfl (op_add rfl rfl rfl (by omega))) ?_
        all_goals first | refine awpOps_cons (g_off rfl rfl rfl rfl rfl) ?_ | refine awpOps_cons (g_on rfl rfl rfl (op_neq rfl rfl rfl)) ?_
        all_goals refine awpOps_cons (op_pick rfl rfl rfl rfl) ?_
        all_goals refine awpOps_cons (op_mv rfl (Conv.of rfl) rfl) ?_
        all_goals first | refine g_lit (t := 51) (b := true) rfl ?_ | refine g_split (t := 51) rfl (fun h => ?_) (fun h => ?_)
        all_goals first | refine awpOps_cons (g_off rfl rfl rfl rfl rfl) ?_ | refine awpOps_cons (g_on rfl rfl rfl (op_fab f41_1 rfl rfl)) ?_
        all_goals first | refine awpOps_cons (g_off rfl rfl rfl rfl rfl) ?_ | refine awpOps_cons (g_on rfl rfl rfl (op_ld ty3 rfl rfl rfl)) ?_
        all_goals first | refine awpOps_cons (g_off rfl rfl rfl rfl rfl) ?_ | refine awpOps_cons (g_on rfl rfl rfl (op_fab f29_0 rfl rfl)) ?_
        all_goals first | refine awpOps_cons (g_off rfl rfl rfl rfl rfl) ?_ | refine awpOps_cons (g_on rfl rfl rfl (op_ld ty3 rfl rfl rfl)) ?_
        all_goals first | refine awpOps_cons (g_off rfl rfl rfl rfl rfl) ?_ | refine awpOps_cons (g_on rfl rfl rfl (op_neq rfl rfl rfl)) ?_
        all_goals refine awpOps_cons (op_pick rfl rfl rfl rfl) ?_
        all_goals refine awpOps_nil ?_
        all_goals exact Le.mk rfl (tlb rfl rfl rfl (tlb rfl rfl rfl (tle rfl (rfl) rfl (tle rfl (rfl) rfl (tle rfl (rfl) rfl (tle rfl (by (simp_all; try rfl)) rfl tln)))))) (olk rfl (by exact obOk_cell) (olk rfl (by exact obOk_cell) oln)) noS
      refine awp_cond rfl (fun h2 => ?_) (fun h2 => ?_)
      · all_goals refine awp_seq (awp_region (id := 7) ?_)
        all_goals refine awpOps_cons (op_as rfl (Conv.of rfl) rfl) ?_
        all_goals refine awpOps_nil ?_
        refine awp_ret ?_
        repeat first | refine rt_seq ?_ | refine rt_block ?_
        refine finP (.v rfl (Conv.of rfl)) rfl ?_
        show AV.v false = _
        rw [hall, hs, nodeIn, not_t h2, Bool.false_and, Bool.false_and]
      · have h2' := not_f h2
        refine awp_skip ?_
        all_goals refine awp_seq (awp_region (id := 8) ?_)
        all_goals refine awpOps_cons (op_fab f41_3 rfl rfl) ?_
        all_goals refine awpOps_cons (op_ld ty27 rfl rfl rfl) ?_
        all_goals refine awpOps_cons (op_mf (f := 85) .nil (.cons (r := .box 0 (IsLens.whole Wrld)) rfl (Conv.of rfl) .nil) rfl) ?_
        all_goals refine awpOps_callH rfl (fb67) (.cons rfl (Conv.of rfl) (.cons rfl (Conv.of rfl) (.nil _))) rfl (containsV_ct _ _ [] [.box 0 (IsLens.whole Wrld)] _ (fun v => !shownB w v) (fb85) (fun x hx => okFn_ct x _ w rfl rfl rfl (fun o => by by_cases e : o = 0 <;> by_cases e1 : o = 1 <;> simp [mkSt, st0, St.upd, lk, lk0, orr, e, e1, obOk, noObj] <;> exact plain_refs _)) (by intro z hz; simp [avs, FV.av] at hz; subst hz; exact ⟨rfl, fun o ho => by simp [AV.refs] at ho; subst ho; rfl⟩) (fun o => by by_cases e : o = 0 <;> by_cases e1 : o = 1 <;> simp [mkSt, st0, St.upd, lk, lk0, orr, e, e1, obOk, noObj] <;> exact plain_refs _)) (Hand.none (Hand.l1 (Hand.of rfl rfl) (Hand.l1 ⟨rfl, fun o ho => by simp [AV.refs, FV.refs] at ho; subst ho; rfl⟩ Hand.l0))) (fun o => by by_cases e : o = 0 <;> by_cases e1 : o = 1 <;> simp [mkSt, st0, St.upd, lk, lk0, orr, e, e1, obOk, noObj] <;> exact plain_refs _) rfl rfl ?_
        all_goals refine awpOps_nil ?_
        refine awp_cond rfl (fun h3 => ?_) (fun h3 => ?_)
        · all_goals refine awp_seq (awp_region (id := 9) ?_)
          all_goals refine awpOps_cons (op_as rfl (Conv.of rfl) rfl) ?_
          all_goals refine awpOps_nil ?_
          refine awp_ret ?_
          repeat first | refine rt_seq ?_ | refine rt_block ?_
          refine finP (.v rfl (Conv.of rfl)) rfl ?_
          show AV.v false = _
          rw [hall, hs, nodeIn, h3, Bool.not_true, Bool.and_false, Bool.false_and]
        · refine awp_skip ?_
          all_goals refine awp_region (id := 10) ?_
          all_goals refine awpOps_cons (op_add rfl rfl rfl (by omega)) ?_
          all_goals refine awpOps_cons (op_mv rfl (Conv.of rfl) rfl) ?_
          all_goals refine awpOps_nil ?_
          repeat first | refine nx_seq ?_ | refine nx_block ?_
          exact ⟨n_ - 1, _, by omega, ⟨k + 1, by omega, by rw [hall, hs, nodeIn, h2', h3]; rfl, rfl⟩, Le.mk rfl (tlb rfl rfl rfl (tle rfl (rfl) rfl (tle rfl (rfl) rfl (tle rfl (rfl) rfl tln)))) (olk rfl (by exact obOk_cell) oln) noS⟩
    · refine awp_exit ?_
      repeat refine ex_seq ?_
      refine ex_block ?_
      have hk : w.nodes.length ≤ k := by simpa using h
      all_goals refine awp_seq (awp_region (id := 11) ?_)
      all_goals refine awpOps_cons (op_as rfl (Conv.of rfl) rfl) ?_
      all_goals refine awpOps_nil ?_
      refine awp_ret ?_
      repeat first | refine rt_seq ?_ | refine rt_block ?_
      refine finP (.v rfl (Conv.of rfl)) rfl ?_
      show AV.v true = _
      rw [hall, drop_end hk]; rfl
theorem worldDoBad_ct (w : Wrld) (e : Evt) (h : worldOk w = false) : CtP Tryz.prog 47 [.v w, .v e] (.v Wrld.zero) := by
  refine Ct.intro Tryz.func47 rfl rfl ?_
  all_goals refine awp_seq (awp_region (id := 0) ?_)
  all_goals refine awpOps_cons (op_box (o := 0) ty29 rfl (Conv.of rfl) rfl rfl) ?_
  all_goals refine awpOps_cons (op_box (o := 1) ty78 rfl (Conv.of rfl) rfl rfl) ?_
  all_goals refine awpOps_cons (op_alloc (o := 2) z29 rfl rfl) ?_
  all_goals refine awpOps_nil ?_
  all_goals refine awp_seq (awp_seq (awp_region (id := 1) ?_))
  all_goals refine awpOps_cons (op_ld ty29 rfl rfl rfl) ?_
  all_goals refine awpOps_cons (op_call fb30 (.cons rfl (Conv.of rfl) (.nil _)) (worldOk_ct _) (argOk rfl rfl argOk0) rfl rfl) ?_
  all_goals refine awpOps_cons (op_not rfl rfl) ?_
  all_goals refine awpOps_nil ?_
  refine awp_cond rfl (fun h2 => ?_) (fun h2 => absurd (not_f h2) (by rw [h]; decide))
  all_goals refine awp_seq (awp_region (id := 2) ?_)
  all_goals refine awpOps_cons (op_build (.nil _) z29 rfl pl29 rfl) ?_
  all_goals refine awpOps_cons (op_st ty29 rfl rfl (Conv.of rfl) rfl) ?_
  all_goals refine awpOps_nil ?_
  refine awp_ret ?_
  repeat first | refine rt_seq ?_ | refine rt_block ?_
  exact finP (.rc ty29 rfl rfl) rfl rfl
theorem worldDoA_ct (w : Wrld) (e : Evt) (h : worldOk w = true) : Ct Tryz.prog 47 [.v w, .v e] noObj (fun r1 h1 => r1 = .v (WrldA.mk (doF w e).epoch (.ref 2) (doF w e).log (doF w e).bad) ∧ h1 = obs [(2, .arr (doF w e).nodes)]) := by
  have hf := (worldOk_iff.1 h).fx.fine
  have hfd := doF_fine e hf
  refine Ct.intro Tryz.func47 rfl rfl ?_
  all_goals refine awp_seq (awp_region (id := 0) ?_)
  all_goals refine awpOps_cons (op_box (o := 5) ty29 rfl (Conv.of rfl) rfl rfl) ?_
  all_goals refine awpOps_cons (op_box (o := 6) ty78 rfl (Conv.of rfl) rfl rfl) ?_
  all_goals refine awpOps_cons (op_alloc (o := 7) z29_WrldA rfl rfl) ?_
  all_goals refine awpOps_nil ?_
  all_goals refine awp_seq (awp_seq (awp_region (id := 1) ?_))
  all_goals refine awpOps_cons (op_ld ty29_Wrld rfl rfl rfl) ?_
  all_goals refine awpOps_cons (op_call fb30 (.cons rfl (Conv.of rfl) (.nil _)) (worldOk_ct _) (argOk rfl rfl argOk0) rfl rfl) ?_
  all_goals refine awpOps_cons (op_not rfl rfl) ?_
  all_goals refine awpOps_nil ?_
  refine awp_cond rfl (fun h2 => absurd (not_t h2) (by rw [h]; decide)) (fun h2 => ?_)
  refine awp_skip ?_
  all_goals refine awp_seq (awp_region (id := 3) ?_)
  all_goals refine awpOps_cons (op_ld ty29_Wrld rfl rfl rfl) ?_
  refine awpOps_callO [] rfl fb56 (.cons rfl (Conv.of rfl) (.nil _)) (copiedP_w w hf) ols0 oks0 (argOk' rfl rfl argO0) rfl ?_
  rintro r h' ⟨rfl, rfl⟩
  refine ⟨[(1, .arr w.nodes)], rfl, (fun o ho => by cases ho), fun o ho _ => ?_, oksk obOk_arr oks0, fun o ho => ?_, ?_⟩
  · have : o = 1 := by simpa [keys, lk0] using ho
    subst this; rfl
  · have : o = 1 := by simpa using (show o ∈ [1] from ho)
    subst this; rfl
  all_goals refine awpOps_cons (op_alloc (o := 0) z29_WrldA rfl rfl) ?_
  all_goals refine awpOps_cons (op_st ty29_WrldA rfl rfl (Conv.of rfl) rfl) ?_
  all_goals refine awpOps_nil ?_
  all_goals refine awp_seq (awp_region (id := 4) ?_)
  all_goals refine awpOps_cons (op_ld ty78 rfl rfl rfl) ?_
  all_goals refine awpOps_cons (op_callO fb55 (.cons rfl (Conv.of rfl) (.cons rfl (Conv.of rfl) (.nil _))) (do_ct w e hf) (olsk rfl (olsk rfl ols0)) (oksk (by exact obOkW rfl) (oksk (by exact obOk_arr) oks0)) (oksk (by exact obOkW rfl) (oksk (by exact obOk_arr) oks0)) rfl (argOb rfl rfl rfl (argOk' rfl rfl argO0)) (fun o ho => by cases ho) rfl) ?_
  all_goals refine awpOps_nil ?_
  all_goals refine awp_seq (awp_region (id := 5) ?_)
  all_goals refine awpOps_cons (op_ld ty29_WrldA rfl rfl rfl) ?_
  refine awpOps_callO [(1, .arr (doF w e).nodes)] rfl fb56 (.cons rfl (Conv.of rfl) (.nil _)) (copiedA_w _ hfd) (olsk rfl ols0) (oksk obOk_arr oks0) (argOb rfl rfl rfl argO0) rfl ?_
  rintro r h' ⟨rfl, rfl⟩
  refine ⟨[(1, .arr (doF w e).nodes), (2, .arr (doF w e).nodes)], rfl, fun o ho => ?_, fun o ho h1 => ?_, oksk obOk_arr (oksk obOk_arr oks0), fun o ho => ?_, ?_⟩
  · have : o = 1 := by simpa [keys, lk0] using ho
    subst this; rfl
  · by_cases e1 : o = 1
    · subst e1; cases h1
    · have : o = 2 := by simpa [keys, lk0, e1] using ho
      subst this; rfl
  · have : o = 2 := by simpa using (show o ∈ [2] from ho)
    subst this; rfl
  all_goals refine awpOps_cons (op_st ty29_WrldA rfl rfl (Conv.of rfl) rfl) ?_
  all_goals refine awpOps_nil ?_
  refine awp_ret ?_
  repeat first | refine rt_seq ?_ | refine rt_block ?_
  refine ⟨_, _, res1 (ol := [(2, .arr (doF w e).nodes)]) (.rc ty29_WrldA rfl rfl) (fun o ho => ?_) (olk rfl obOk_arr oln) noS, rfl, rfl⟩
  have : o = 2 := by simpa using (show o ∈ [2] from ho)
  subst this; rfl
def worldDoR (w : Wrld) (e : Evt) : Wrld := if worldOk w then doF w e else Wrld.zero
theorem worldDo_ct (w : Wrld) (e : Evt) : CtP Tryz.prog 47 [.v w, .v e] (.v (worldDoR w e)) := by
  unfold worldDoR
  cases h : worldOk w with
  | false => exact worldDoBad_ct w e h
  | true => exact Ct.frz (worldDoA_ct w e h) (frz_one (big4 (doF_fine e (worldOk_iff.1 h).fx.fine).four))
end Go.Proofs.YtmdhfalfppkpeaaGreat

/- Quiet epochs. -/
set_option linter.unusedVariables false
set_option linter.unusedSimpArgs false
namespace Go.Proofs.YtmdhfalfppkpeaaGreat
open Go Go.Wt
set_option maxHeartbeats 1000000 in
theorem spread_ct (w : Wrld) (hw : Fine w) : CtO Tryz.prog 126 [.box 0 (IsLens.whole WrldA)] (wo w) (.tup []) (wo (spreadF w)) := by
  refine Ct.intro Tryz.func126 rfl rfl ?_
  all_goals first | refine awp_seq (awp_region (id := 0) ?_) | refine awp_seq (awp_seq (awp_region (id := 0) ?_)) | refine awp_region (id := 0) ?_ | refine awp_seq (awp_seq (awp_seq (awp_region (id := 0) ?_)))
  all_goals refine awpOps_cons (op_as rfl (Conv.of rfl) rfl) ?_
  all_goals refine awpOps_nil ?_
  first | refine awp_seq (awp_block ?_) | refine awp_seq (awp_seq (awp_block ?_)) | refine awp_block ?_ | refine awp_seq (awp_seq (awp_seq (awp_block ?_)))
  first | refine awp_seq (awp_loop' (fun n_ s => ∃ (a : Nat), ∃ (x : Wrld), ∃ (hx : Fine x), ∃ (he : sprF (100 - a) a x = spreadF w), ∃ (hn : n_ + a = 100), s = mkSt 21 [(0, .box 0 (IsLens.whole WrldA)), (2, .v (a : Int))] [(0, .cell (wA x)), (1, .arr x.nodes)]) (100) ⟨0, w, hw, rfl, by omega, rfl⟩ (Le.mk rfl (tlb rfl rfl rfl (tle rfl (rfl) rfl tln)) (olk rfl (by first | exact obOk_cell | exact obOk_arr | exact obOkW rfl | exact obOkW0 | exact obOkN | exact obOkS rfl | exact obOkNs | exact obOkS0 | trivial) (olk rfl (by first | exact obOk_cell | exact obOk_arr | exact obOkW rfl | exact obOkW0 | exact obOkN | exact obOkS rfl | exact obOkNs | exact obOkS0 | trivial) oln)) (hS_sub (a := wo w) rfl)) ?_) | refine awp_seq (awp_seq (awp_loop' (fun n_ s => ∃ (a : Nat), ∃ (x : Wrld), ∃ (hx : Fine x), ∃ (he : sprF (100 - a) a x = spreadF w), ∃ (hn : n_ + a = 100), s = mkSt 21 [(0, .box 0 (IsLens.whole WrldA)), (2, .v (a : Int))] [(0, .cell (wA x)), (1, .arr x.nodes)]) (100) ⟨0, w, hw, rfl, by omega, rfl⟩ (Le.mk rfl (tlb rfl rfl rfl (tle rfl (rfl) rfl tln)) (olk rfl (by first | exact obOk_cell | exact obOk_arr | exact obOkW rfl | exact obOkW0 | exact obOkN | exact obOkS rfl | exact obOkNs | exact obOkS0 | trivial) (olk rfl (by first | exact obOk_cell | exact obOk_arr | exact obOkW rfl | exact obOkW0 | exact obOkN | exact obOkS rfl | exact obOkNs | exact obOkS0 | trivial) oln)) (hS_sub (a := wo w) rfl)) ?_)) | refine awp_loop' (fun n_ s => ∃ (a : Nat), ∃ (x : Wrld), ∃ (hx : Fine x), ∃ (he : sprF (100 - a) a x = spreadF w), ∃ (hn : n_ + a = 100), s = mkSt 21 [(0, .box 0 (IsLens.whole WrldA)), (2, .v (a : Int))] [(0, .cell (wA x)), (1, .arr x.nodes)]) (100) ⟨0, w, hw, rfl, by omega, rfl⟩ (Le.mk rfl (tlb rfl rfl rfl (tle rfl (rfl) rfl tln)) (olk rfl (by first | exact obOk_cell | exact obOk_arr | exact obOkW rfl | exact obOkW0 | exact obOkN | exact obOkS rfl | exact obOkNs | exact obOkS0 | trivial) (olk rfl (by first | exact obOk_cell | exact obOk_arr | exact obOkW rfl | exact obOkW0 | exact obOkN | exact obOkS rfl | exact obOkNs | exact obOkS0 | trivial) oln)) (hS_sub (a := wo w) rfl)) ?_ | refine awp_seq (awp_seq (awp_seq (awp_loop' (fun n_ s => ∃ (a : Nat), ∃ (x : Wrld), ∃ (hx : Fine x), ∃ (he : sprF (100 - a) a x = spreadF w), ∃ (hn : n_ + a = 100), s = mkSt 21 [(0, .box 0 (IsLens.whole WrldA)), (2, .v (a : Int))] [(0, .cell (wA x)), (1, .arr x.nodes)]) (100) ⟨0, w, hw, rfl, by omega, rfl⟩ (Le.mk rfl (tlb rfl rfl rfl (tle rfl (rfl) rfl tln)) (olk rfl (by first | exact obOk_cell | exact obOk_arr | exact obOkW rfl | exact obOkW0 | exact obOkN | exact obOkS rfl | exact obOkNs | exact obOkS0 | trivial) (olk rfl (by first | exact obOk_cell | exact obOk_arr | exact obOkW rfl | exact obOkW0 | exact obOkN | exact obOkS rfl | exact obOkNs | exact obOkS0 | trivial) oln)) (hS_sub (a := wo w) rfl)) ?_)))
  rintro n_ s ⟨a, x, hx, he, hn, rfl⟩
  all_goals first | refine awp_seq (awp_region (id := 1) ?_) | refine awp_seq (awp_seq (awp_region (id := 1) ?_)) | refine awp_region (id := 1) ?_ | refine awp_seq (awp_seq (awp_seq (awp_region (id := 1) ?_)))
  all_goals first | refine awpOps_cons (op_mv rfl (Conv.of rfl) rfl) ?_ | refine awpOps_cons (op_mvl rfl rfl rfl rfl) ?_ | refine awpOps_cons (op_mvo rfl rfl rfl rfl) ?_
  all_goals first | refine awpOps_cons (op_mv rfl (Conv.of rfl) rfl) ?_ | refine awpOps_cons (op_mvl rfl rfl rfl rfl) ?_ | refine awpOps_cons (op_mvo rfl rfl rfl rfl) ?_
  all_goals first | refine awpOps_cons (op_nilc_box rfl rfl) ?_ | refine awpOps_cons (op_nilc_elm rfl rfl) ?_
  all_goals first | refine awpOps_cons (op_fab f29_2_WrldA rfl rfl) ?_ | refine awpOps_cons (op_far f29_2_WrldA rfl rfl) ?_ | refine awpOps_cons (op_fae f29_2_WrldA rfl rfl) ?_
  all_goals first | refine awpOps_cons (op_ld ty27 rfl rfl rfl) ?_ | refine awpOps_cons (op_ldr ty27 rfl rfl) ?_ | refine awpOps_cons (op_lde ty27 rfl rfl (by assumption) rfl) ?_ | refine awpOps_cons (op_ldl ty27 rfl rfl rfl) ?_ | refine awpOps_cons (op_ldd ty27 rfl rfl rfl) ?_ | refine awpOps_cons (op_ldde ty27 rfl rfl (by assumption) rfl) ?_
  all_goals first | refine awpOps_cons (op_len sl27 rfl rfl) ?_ | refine awpOps_cons (op_lenA sl27 rfl rfl rfl) ?_
  all_goals refine awpOps_cons (op_lss rfl rfl rfl) ?_
  all_goals refine awpOps_nil ?_
  first | refine awp_seq (awp_cond rfl (fun h => ?_) (fun h => ?_)) | refine awp_seq (awp_seq (awp_cond rfl (fun h => ?_) (fun h => ?_))) | refine awp_cond rfl (fun h => ?_) (fun h => ?_) | refine awp_seq (awp_seq (awp_seq (awp_cond rfl (fun h => ?_) (fun h => ?_))))
  · have ha : a < x.log.length := by simpa using h
    have hll := hx.ll
    refine awp_skip ?_
    first | refine awp_seq (awp_block ?_) | refine awp_seq (awp_seq (awp_block ?_)) | refine awp_block ?_ | refine awp_seq (awp_seq (awp_seq (awp_block ?_)))
    all_goals first | refine awp_seq (awp_region (id := 3) ?_) | refine awp_seq (awp_seq (awp_region (id := 3) ?_)) | refine awp_region (id := 3) ?_ | refine awp_seq (awp_seq (awp_seq (awp_region (id := 3) ?_)))
    all_goals refine awpOps_cons (op_as rfl (Conv.of rfl) rfl) ?_
    all_goals refine awpOps_nil ?_
    first | refine awp_seq (awp_seq (awp_seq (awp_seq_to (s' := mkSt 21 [(0, .box 0 (IsLens.whole WrldA)), (2, .v (a : Int))] [(0, .cell (wA (b4 x a))), (1, .arr (b4 x a).nodes)]) ?_ ?_))) | refine awp_seq (awp_seq (awp_seq_to (s' := mkSt 21 [(0, .box 0 (IsLens.whole WrldA)), (2, .v (a : Int))] [(0, .cell (wA (b4 x a))), (1, .arr (b4 x a).nodes)]) ?_ ?_)) | refine awp_seq (awp_seq_to (s' := mkSt 21 [(0, .box 0 (IsLens.whole WrldA)), (2, .v (a : Int))] [(0, .cell (wA (b4 x a))), (1, .arr (b4 x a).nodes)]) ?_ ?_) | refine awp_seq_to (s' := mkSt 21 [(0, .box 0 (IsLens.whole WrldA)), (2, .v (a : Int))] [(0, .cell (wA (b4 x a))), (1, .arr (b4 x a).nodes)]) ?_ ?_ | refine awp_toB (s' := mkSt 21 [(0, .box 0 (IsLens.whole WrldA)), (2, .v (a : Int))] [(0, .cell (wA (b4 x a))), (1, .arr (b4 x a).nodes)]) ?_ ?_ | refine awp_to (s' := mkSt 21 [(0, .box 0 (IsLens.whole WrldA)), (2, .v (a : Int))] [(0, .cell (wA (b4 x a))), (1, .arr (b4 x a).nodes)]) ?_ ?_
    · first | refine awp_seq (awp_block ?_) | refine awp_seq (awp_seq (awp_block ?_)) | refine awp_block ?_ | refine awp_seq (awp_seq (awp_seq (awp_block ?_)))
      first | refine awp_seq (awp_loop' (fun n_ s => ∃ (k : Nat), ∃ (hk : n_ + k = 4), s = mkSt 21 [(0, .box 0 (IsLens.whole WrldA)), (2, .v (a : Int)), (3, .v ((k : Int) + 1))] [(0, .cell (wA (brN x a k))), (1, .arr (brN x a k).nodes)]) (4) ⟨0, by omega, rfl⟩ (Le.mk rfl (tlb rfl rfl rfl (tle rfl (rfl) rfl (tle rfl (rfl) rfl tln))) (olk rfl (by first | exact obOk_cell | exact obOk_arr | exact obOkW rfl | exact obOkW0 | exact obOkN | exact obOkS rfl | exact obOkNs | exact obOkS0 | trivial) (olk rfl (by first | exact obOk_cell | exact obOk_arr | exact obOkW rfl | exact obOkW0 | exact obOkN | exact obOkS rfl | exact obOkNs | exact obOkS0 | trivial) oln)) (hS_sub (a := wo w) rfl)) ?_) | refine awp_seq (awp_seq (awp_loop' (fun n_ s => ∃ (k : Nat), ∃ (hk : n_ + k = 4), s = mkSt 21 [(0, .box 0 (IsLens.whole WrldA)), (2, .v (a : Int)), (3, .v ((k : Int) + 1))] [(0, .cell (wA (brN x a k))), (1, .arr (brN x a k).nodes)]) (4) ⟨0, by omega, rfl⟩ (Le.mk rfl (tlb rfl rfl rfl (tle rfl (rfl) rfl (tle rfl (rfl) rfl tln))) (olk rfl (by first | exact obOk_cell | exact obOk_arr | exact obOkW rfl | exact obOkW0 | exact obOkN | exact obOkS rfl | exact obOkNs | exact obOkS0 | trivial) (olk rfl (by first | exact obOk_cell | exact obOk_arr | exact obOkW rfl | exact obOkW0 | exact obOkN | exact obOkS rfl | exact obOkNs | exact obOkS0 | trivial) oln)) (hS_sub (a := wo w) rfl)) ?_)) | refine awp_loop' (fun n_ s => ∃ (k : Nat), ∃ (hk : n_ + k = 4), s = mkSt 21 [(0, .box 0 (IsLens.whole WrldA)), (2, .v (a : Int)), (3, .v ((k : Int) + 1))] [(0, .cell (wA (brN x a k))), (1, .arr (brN x a k).nodes)]) (4) ⟨0, by omega, rfl⟩ (Le.mk rfl (tlb rfl rfl rfl (tle rfl (rfl) rfl (tle rfl (rfl) rfl tln))) (olk rfl (by first | exact obOk_cell | exact obOk_arr | exact obOkW rfl | exact obOkW0 | exact obOkN | exact obOkS rfl | exact obOkNs | exact obOkS0 | trivial) (olk rfl (by first | exact obOk_cell | exact obOk_arr | exact obOkW rfl | exact obOkW0 | exact obOkN | exact obOkS rfl | exact obOkNs | exact obOkS0 | trivial) oln)) (hS_sub (a := wo w) rfl)) ?_ | refine awp_seq (awp_seq (awp_seq (awp_loop' (fun n_ s => ∃ (k : Nat), ∃ (hk : n_ + k = 4), s = mkSt 21 [(0, .box 0 (IsLens.whole WrldA)), (2, .v (a : Int)), (3, .v ((k : Int) + 1))] [(0, .cell (wA (brN x a k))), (1, .arr (brN x a k).nodes)]) (4) ⟨0, by omega, rfl⟩ (Le.mk rfl (tlb rfl rfl rfl (tle rfl (rfl) rfl (tle rfl (rfl) rfl tln))) (olk rfl (by first | exact obOk_cell | exact obOk_arr | exact obOkW rfl | exact obOkW0 | exact obOkN | exact obOkS rfl | exact obOkNs | exact obOkS0 | trivial) (olk rfl (by first | exact obOk_cell | exact obOk_arr | exact obOkW rfl | exact obOkW0 | exact obOkN | exact obOkS rfl | exact obOkNs | exact obOkS0 | trivial) oln)) (hS_sub (a := wo w) rfl)) ?_)))
      rintro n_ s ⟨k, hk, rfl⟩
      all_goals first | refine awp_seq (awp_region (id := 4) ?_) | refine awp_seq (awp_seq (awp_region (id := 4) ?_)) | refine awp_region (id := 4) ?_ | refine awp_seq (awp_seq (awp_seq (awp_region (id := 4) ?_)))
      all_goals first | refine awpOps_cons (op_mv rfl (Conv.of rfl) rfl) ?_ | refine awpOps_cons (op_mvl rfl rfl rfl rfl) ?_ | refine awpOps_cons (op_mvo rfl rfl rfl rfl) ?_
      all_goals refine awpOps_cons (op_leq rfl rfl rfl) ?_
      all_goals refine awpOps_nil ?_
      first | refine awp_seq (awp_cond rfl (fun h2 => ?_) (fun h2 => ?_)) | refine awp_seq (awp_seq (awp_cond rfl (fun h2 => ?_) (fun h2 => ?_))) | refine awp_cond rfl (fun h2 => ?_) (fun h2 => ?_) | refine awp_seq (awp_seq (awp_seq (awp_cond rfl (fun h2 => ?_) (fun h2 => ?_))))
      · have hk2 : k < 4 := by simp at h2; omega
        refine awp_skip ?_
        first | refine awp_seq (awp_block ?_) | refine awp_seq (awp_seq (awp_block ?_)) | refine awp_block ?_ | refine awp_seq (awp_seq (awp_seq (awp_block ?_)))
        all_goals first | refine awp_seq (awp_region (id := 6) ?_) | refine awp_seq (awp_seq (awp_region (id := 6) ?_)) | refine awp_region (id := 6) ?_ | refine awp_seq (awp_seq (awp_seq (awp_region (id := 6) ?_)))
        all_goals first | refine awpOps_cons (op_mv rfl (Conv.of rfl) rfl) ?_ | refine awpOps_cons (op_mvl rfl rfl rfl rfl) ?_ | refine awpOps_cons (op_mvo rfl rfl rfl rfl) ?_
        all_goals first | refine awpOps_cons (op_mv rfl (Conv.of rfl) rfl) ?_ | refine awpOps_cons (op_mvl rfl rfl rfl rfl) ?_ | refine awpOps_cons (op_mvo rfl rfl rfl rfl) ?_
        all_goals first | refine awpOps_cons (op_mv rfl (Conv.of rfl) rfl) ?_ | refine awpOps_cons (op_mvl rfl rfl rfl rfl) ?_ | refine awpOps_cons (op_mvo rfl rfl rfl rfl) ?_
        all_goals refine awpOps_cons (op_callO fb113 (.cons rfl (Conv.of rfl) (.cons rfl (Conv.of rfl) (.cons rfl (Conv.of rfl) (.nil _)))) (wbring_ct _ _ _ (brN_fine hx a k)) (olsk rfl (olsk rfl ols0)) (oksk (by first | exact obOk_cell | exact obOk_arr | exact obOkW rfl | exact obOkW0 | exact obOkN | exact obOkS rfl | exact obOkNs | exact obOkS0 | trivial) (oksk (by first | exact obOk_cell | exact obOk_arr | exact obOkW rfl | exact obOkW0 | exact obOkN | exact obOkS rfl | exact obOkNs | exact obOkS0 | trivial) oks0)) (oksk (by first | exact obOk_cell | exact obOk_arr | exact obOkW rfl | exact obOkW0 | exact obOkN | exact obOkS rfl | exact obOkNs | exact obOkS0 | trivial) (oksk (by first | exact obOk_cell | exact obOk_arr | exact obOkW rfl | exact obOkW0 | exact obOkN | exact obOkS rfl | exact obOkNs | exact obOkS0 | trivial) oks0)) rfl (argOb rfl rfl rfl (argOk' rfl rfl (argOk' rfl rfl argO0))) (fun o ho => by cases ho) rfl) ?_
        all_goals refine awpOps_nil ?_
        all_goals first | refine awp_seq (awp_region (id := 5) ?_) | refine awp_seq (awp_seq (awp_region (id := 5) ?_)) | refine awp_region (id := 5) ?_ | refine awp_seq (awp_seq (awp_seq (awp_region (id := 5) ?_)))
        all_goals first | refine awpOps_cons (op_mv rfl (Conv.of rfl) rfl) ?_ | refine awpOps_cons (op_mvl rfl rfl rfl rfl) ?_ | refine awpOps_cons (op_mvo rfl rfl rfl rfl) ?_
        all_goals refine awpOps_cons (op_add rfl rfl rfl (by omega)) ?_
        all_goals first | refine awpOps_cons (op_as rfl (Conv.of rfl) rfl) ?_ | refine awpOps_cons (op_asl rfl rfl rfl rfl) ?_ | refine awpOps_cons (op_aso rfl rfl rfl rfl) ?_
        all_goals refine awpOps_nil ?_
        repeat first | refine nx_seq ?_ | refine nx_block ?_
        exact ⟨n_ - 1, _, by omega, ⟨k + 1, by omega, rfl⟩, Le.mk rfl (tlb rfl rfl rfl (tle rfl (rfl) rfl (tle rfl (rfl) rfl tln))) (olk rfl (by first | exact obOk_cell | exact obOk_arr | exact obOkW rfl | exact obOkW0 | exact obOkN | exact obOkS rfl | exact obOkNs | exact obOkS0 | trivial) (olk rfl (by first | exact obOk_cell | exact obOk_arr | exact obOkW rfl | exact obOkW0 | exact obOkN | exact obOkS rfl | exact obOkNs | exact obOkS0 | trivial) oln)) (hS_sub (a := wo w) rfl)⟩
      · refine awp_exit ?_
        repeat refine ex_seq ?_
        refine ex_block ?_
        have hk4 : k = 4 := by simp at h2; omega
        subst hk4
        all_goals exact Le.mk rfl (tlb rfl rfl rfl (tle rfl (rfl) rfl tln)) (olk rfl (by first | exact obOk_cell | exact obOk_arr | exact obOkW rfl | exact obOkW0 | exact obOkN | exact obOkS rfl | exact obOkNs | exact obOkS0 | trivial) (olk rfl (by first | exact obOk_cell | exact obOk_arr | exact obOkW rfl | exact obOkW0 | exact obOkN | exact obOkS rfl | exact obOkNs | exact obOkS0 | trivial) oln)) (hS_sub (a := wo w) rfl)
    · all_goals first | refine awp_seq (awp_region (id := 2) ?_) | refine awp_seq (awp_seq (awp_region (id := 2) ?_)) | refine awp_region (id := 2) ?_ | refine awp_seq (awp_seq (awp_seq (awp_region (id := 2) ?_)))
      all_goals first | refine awpOps_cons (op_mv rfl (Conv.of rfl) rfl) ?_ | refine awpOps_cons (op_mvl rfl rfl rfl rfl) ?_ | refine awpOps_cons (op_mvo rfl rfl rfl rfl) ?_
      all_goals refine awpOps_cons (op_add rfl rfl rfl (by omega)) ?_
      all_goals first | refine awpOps_cons (op_as rfl (Conv.of rfl) rfl) ?_ | refine awpOps_cons (op_asl rfl rfl rfl rfl) ?_ | refine awpOps_cons (op_aso rfl rfl rfl rfl) ?_
      all_goals refine awpOps_nil ?_
      repeat first | refine nx_seq ?_ | refine nx_block ?_
      exact ⟨n_ - 1, _, by omega, ⟨a + 1, b4 x a, b4_fine hx a, (by rw [← he, show 100 - a = (100 - (a + 1)) + 1 by omega, sprF_go ha]), by omega, rfl⟩, Le.mk rfl (tlb rfl rfl rfl (tle rfl (rfl) rfl tln)) (olk rfl (by first | exact obOk_cell | exact obOk_arr | exact obOkW rfl | exact obOkW0 | exact obOkN | exact obOkS rfl | exact obOkNs | exact obOkS0 | trivial) (olk rfl (by first | exact obOk_cell | exact obOk_arr | exact obOkW rfl | exact obOkW0 | exact obOkN | exact obOkS rfl | exact obOkNs | exact obOkS0 | trivial) oln)) (hS_sub (a := wo w) rfl)⟩
  · refine awp_exit ?_
    repeat refine ex_seq ?_
    refine ex_block ?_
    have ha : ¬ a < x.log.length := by simpa using h
    rw [sprF_stop ha] at he
    subst he
    refine finO (wo (spreadF w)) .nil rfl (fun o ho => by cases ho) ?_ (hS_keys rfl) rfl
    exact (olk rfl (obOkW rfl) (olk rfl obOk_arr oln))
set_option maxHeartbeats 1000000 in
theorem calm_ct (w : Wrld) (p : Pay) (hw : Fine w) : CtO Tryz.prog 74 [.box 0 (IsLens.whole WrldA), .v p] (wo w) (.tup []) (wo (calmF w p)) := by
  have h1 := tick_fine hw
  have h2 := spread_fine h1
  have h3 := propose_fine h2 (leader (spreadF (tickF w)).epoch) p
  refine Ct.intro Tryz.func74 rfl rfl ?_
  all_goals first | refine awp_seq (awp_region (id := 0) ?_) | refine awp_seq (awp_seq (awp_region (id := 0) ?_)) | refine awp_region (id := 0) ?_ | refine awp_seq (awp_seq (awp_seq (awp_region (id := 0) ?_)))
  all_goals first | refine awpOps_cons (op_box (o := 2) ty58 rfl (Conv.of rfl) rfl rfl) ?_ | refine awpOps_cons (op_boxm (o := 2) ty58 rfl rfl rfl rfl) ?_
  all_goals refine awpOps_nil ?_
  all_goals first | refine awp_seq (awp_region (id := 1) ?_) | refine awp_seq (awp_seq (awp_region (id := 1) ?_)) | refine awp_region (id := 1) ?_ | refine awp_seq (awp_seq (awp_seq (awp_region (id := 1) ?_)))
  all_goals first | refine awpOps_cons (op_mv rfl (Conv.of rfl) rfl) ?_ | refine awpOps_cons (op_mvl rfl rfl rfl rfl) ?_ | refine awpOps_cons (op_mvo rfl rfl rfl rfl) ?_
  all_goals refine awpOps_cons (op_callO fb111 (.cons rfl (Conv.of rfl) (.nil _)) (tick_ct w hw) (olsk rfl (olsk rfl ols0)) (oksk (by first | exact obOk_cell | exact obOk_arr | exact obOkW rfl | exact obOkW0 | exact obOkN | exact obOkS rfl | exact obOkNs | exact obOkS0 | trivial) (oksk (by first | exact obOk_cell | exact obOk_arr | exact obOkW rfl | exact obOkW0 | exact obOkN | exact obOkS rfl | exact obOkNs | exact obOkS0 | trivial) oks0)) (oksk (by first | exact obOk_cell | exact obOk_arr | exact obOkW rfl | exact obOkW0 | exact obOkN | exact obOkS rfl | exact obOkNs | exact obOkS0 | trivial) (oksk (by first | exact obOk_cell | exact obOk_arr | exact obOkW rfl | exact obOkW0 | exact obOkN | exact obOkS rfl | exact obOkNs | exact obOkS0 | trivial) oks0)) rfl (argOb rfl rfl rfl argO0) (fun o ho => by cases ho) rfl) ?_
  all_goals refine awpOps_nil ?_
  all_goals first | refine awp_seq (awp_region (id := 2) ?_) | refine awp_seq (awp_seq (awp_region (id := 2) ?_)) | refine awp_region (id := 2) ?_ | refine awp_seq (awp_seq (awp_seq (awp_region (id := 2) ?_)))
  all_goals first | refine awpOps_cons (op_mv rfl (Conv.of rfl) rfl) ?_ | refine awpOps_cons (op_mvl rfl rfl rfl rfl) ?_ | refine awpOps_cons (op_mvo rfl rfl rfl rfl) ?_
  all_goals refine awpOps_cons (op_callO fb126 (.cons rfl (Conv.of rfl) (.nil _)) (spread_ct _ h1) (olsk rfl (olsk rfl ols0)) (oksk (by first | exact obOk_cell | exact obOk_arr | exact obOkW rfl | exact obOkW0 | exact obOkN | exact obOkS rfl | exact obOkNs | exact obOkS0 | trivial) (oksk (by first | exact obOk_cell | exact obOk_arr | exact obOkW rfl | exact obOkW0 | exact obOkN | exact obOkS rfl | exact obOkNs | exact obOkS0 | trivial) oks0)) (oksk (by first | exact obOk_cell | exact obOk_arr | exact obOkW rfl | exact obOkW0 | exact obOkN | exact obOkS rfl | exact obOkNs | exact obOkS0 | trivial) (oksk (by first | exact obOk_cell | exact obOk_arr | exact obOkW rfl | exact obOkW0 | exact obOkN | exact obOkS rfl | exact obOkNs | exact obOkS0 | trivial) oks0)) rfl (argOb rfl rfl rfl argO0) (fun o ho => by cases ho) rfl) ?_
  all_goals refine awpOps_nil ?_
  all_goals first | refine awp_seq (dr_start (id := 3) ?_) | refine awp_seq (awp_seq (dr_start (id := 3) ?_)) | refine dr_start (id := 3) ?_ | refine awp_seq (awp_seq (awp_seq (dr_start (id := 3) ?_)))
  all_goals first | refine dr_cons (op_mv rfl (Conv.of rfl) rfl) ?_ | refine dr_cons (op_mvl rfl rfl rfl rfl) ?_ | refine dr_cons (op_mvo rfl rfl rfl rfl) ?_
  all_goals first | refine dr_cons (op_mv rfl (Conv.of rfl) rfl) ?_ | refine dr_cons (op_mvl rfl rfl rfl rfl) ?_ | refine dr_cons (op_mvo rfl rfl rfl rfl) ?_
  all_goals first | refine dr_cons (op_nilc_box rfl rfl) ?_ | refine dr_cons (op_nilc_elm rfl rfl) ?_
  all_goals first | refine dr_cons (op_fab f29_0_WrldA rfl rfl) ?_ | refine dr_cons (op_far f29_0_WrldA rfl rfl) ?_ | refine dr_cons (op_fae f29_0_WrldA rfl rfl) ?_
  all_goals first | refine dr_cons (op_ld ty3 rfl rfl rfl) ?_ | refine dr_cons (op_ldr ty3 rfl rfl) ?_ | refine dr_cons (op_lde ty3 rfl rfl (by assumption) rfl) ?_ | refine dr_cons (op_ldl ty3 rfl rfl rfl) ?_ | refine dr_cons (op_ldd ty3 rfl rfl rfl) ?_ | refine dr_cons (op_ldde ty3 rfl rfl (by assumption) rfl) ?_
  all_goals refine dr_cons (op_call fb127 (.cons rfl (Conv.of rfl) (.nil _)) (leader_ct _) (argOk rfl rfl argOk0) rfl rfl) ?_
  all_goals first | refine dr_cons (op_ld ty58 rfl rfl rfl) ?_ | refine dr_cons (op_ldr ty58 rfl rfl) ?_ | refine dr_cons (op_lde ty58 rfl rfl (by assumption) rfl) ?_ | refine dr_cons (op_ldl ty58 rfl rfl rfl) ?_ | refine dr_cons (op_ldd ty58 rfl rfl rfl) ?_ | refine dr_cons (op_ldde ty58 rfl rfl (by assumption) rfl) ?_
  all_goals refine dr_cons (op_callO fb112 (.cons rfl (Conv.of rfl) (.cons rfl (Conv.of rfl) (.cons rfl (Conv.of rfl) (.nil _)))) (wpropose_ct _ _ _ h2) (olsk rfl (olsk rfl ols0)) (oksk (by first | exact obOk_cell | exact obOk_arr | exact obOkW rfl | exact obOkW0 | exact obOkN | exact obOkS rfl | exact obOkNs | exact obOkS0 | trivial) (oksk (by first | exact obOk_cell | exact obOk_arr | exact obOkW rfl | exact obOkW0 | exact obOkN | exact obOkS rfl | exact obOkNs | exact obOkS0 | trivial) oks0)) (oksk (by first | exact obOk_cell | exact obOk_arr | exact obOkW rfl | exact obOkW0 | exact obOkN | exact obOkS rfl | exact obOkNs | exact obOkS0 | trivial) (oksk (by first | exact obOk_cell | exact obOk_arr | exact obOkW rfl | exact obOkW0 | exact obOkN | exact obOkS rfl | exact obOkNs | exact obOkS0 | trivial) oks0)) rfl (argOb rfl rfl rfl (argOk' rfl rfl (argOk' rfl rfl argO0))) (fun o ho => by cases ho) rfl) ?_
  all_goals refine dr_nil mixed rfl ?_
  all_goals first | refine awp_seq (awp_region (id := 4) ?_) | refine awp_seq (awp_seq (awp_region (id := 4) ?_)) | refine awp_region (id := 4) ?_ | refine awp_seq (awp_seq (awp_seq (awp_region (id := 4) ?_)))
  all_goals first | refine awpOps_cons (op_mv rfl (Conv.of rfl) rfl) ?_ | refine awpOps_cons (op_mvl rfl rfl rfl rfl) ?_ | refine awpOps_cons (op_mvo rfl rfl rfl rfl) ?_
  all_goals refine awpOps_cons (op_callO fb126 (.cons rfl (Conv.of rfl) (.nil _)) (spread_ct _ h3) (olsk rfl (olsk rfl ols0)) (oksk (by first | exact obOk_cell | exact obOk_arr | exact obOkW rfl | exact obOkW0 | exact obOkN | exact obOkS rfl | exact obOkNs | exact obOkS0 | trivial) (oksk (by first | exact obOk_cell | exact obOk_arr | exact obOkW rfl | exact obOkW0 | exact obOkN | exact obOkS rfl | exact obOkNs | exact obOkS0 | trivial) oks0)) (oksk (by first | exact obOk_cell | exact obOk_arr | exact obOkW rfl | exact obOkW0 | exact obOkN | exact obOkS rfl | exact obOkNs | exact obOkS0 | trivial) (oksk (by first | exact obOk_cell | exact obOk_arr | exact obOkW rfl | exact obOkW0 | exact obOkN | exact obOkS rfl | exact obOkNs | exact obOkS0 | trivial) oks0)) rfl (argOb rfl rfl rfl argO0) (fun o ho => by cases ho) rfl) ?_
  all_goals refine awpOps_nil ?_
  refine finO (wo (calmF w p)) .nil rfl (fun o ho => by cases ho) ?_ (hS_keys rfl) rfl
  exact (olk rfl (obOkW rfl) (olk rfl obOk_arr oln))
theorem worldCalmBad_ct (w : Wrld) (pays : List Pay) (h : (worldOk w && decide (pays.length ≤ 30)) = false) : CtP Tryz.prog 27 [.v w, .v pays] (.v Wrld.zero) := by
  have hl : worldOk w = true → (30 : Int) < (pays.length : Int) := fun e => by
    rw [e] at h
    simp at h
    omega
  clear h
  refine Ct.intro Tryz.func27 rfl rfl ?_
  all_goals first | refine awp_seq (awp_region (id := 0) ?_) | refine awp_seq (awp_seq (awp_region (id := 0) ?_)) | refine awp_region (id := 0) ?_ | refine awp_seq (awp_seq (awp_seq (awp_region (id := 0) ?_)))
  all_goals first | refine awpOps_cons (op_box (o := 0) ty29 rfl (Conv.of rfl) rfl rfl) ?_ | refine awpOps_cons (op_boxm (o := 0) ty29 rfl rfl rfl rfl) ?_
  all_goals refine awpOps_cons (op_alloc (o := 1) z29 rfl rfl) ?_
  all_goals refine awpOps_nil ?_
  first | refine awp_seq (awp_seq (awp_seq (awp_seq_to (s' := mkSt 30 [(1, .v pays), (4, .box 1 (IsLens.whole Wrld)), (15, .v true)] [(1, .cell Wrld.zero)]) ?_ ?_))) | refine awp_seq (awp_seq (awp_seq_to (s' := mkSt 30 [(1, .v pays), (4, .box 1 (IsLens.whole Wrld)), (15, .v true)] [(1, .cell Wrld.zero)]) ?_ ?_)) | refine awp_seq (awp_seq_to (s' := mkSt 30 [(1, .v pays), (4, .box 1 (IsLens.whole Wrld)), (15, .v true)] [(1, .cell Wrld.zero)]) ?_ ?_) | refine awp_seq_to (s' := mkSt 30 [(1, .v pays), (4, .box 1 (IsLens.whole Wrld)), (15, .v true)] [(1, .cell Wrld.zero)]) ?_ ?_ | refine awp_toB (s' := mkSt 30 [(1, .v pays), (4, .box 1 (IsLens.whole Wrld)), (15, .v true)] [(1, .cell Wrld.zero)]) ?_ ?_ | refine awp_to (s' := mkSt 30 [(1, .v pays), (4, .box 1 (IsLens.whole Wrld)), (15, .v true)] [(1, .cell Wrld.zero)]) ?_ ?_
  · all_goals first | refine awp_seq (awp_region (id := 1) ?_) | refine awp_seq (awp_seq (awp_region (id := 1) ?_)) | refine awp_region (id := 1) ?_ | refine awp_seq (awp_seq (awp_seq (awp_region (id := 1) ?_)))
    all_goals first | refine awpOps_cons (op_ld ty29 rfl rfl rfl) ?_ | refine awpOps_cons (op_ldr ty29 rfl rfl) ?_ | refine awpOps_cons (op_lde ty29 rfl rfl (by assumption) rfl) ?_ | refine awpOps_cons (op_ldl ty29 rfl rfl rfl) ?_ | refine awpOps_cons (op_ldd ty29 rfl rfl rfl) ?_ | refine awpOps_cons (op_ldde ty29 rfl rfl (by assumption) rfl) ?_
    all_goals refine awpOps_cons (op_call fb30 (.cons rfl (Conv.of rfl) (.nil _)) (worldOk_ct _) (argOk rfl rfl argOk0) rfl rfl) ?_
    all_goals refine awpOps_cons (op_not rfl rfl) ?_
    all_goals first | refine awpOps_cons (op_mv rfl (Conv.of rfl) rfl) ?_ | refine awpOps_cons (op_mvl rfl rfl rfl rfl) ?_ | refine awpOps_cons (op_mvo rfl rfl rfl rfl) ?_
    all_goals first | refine g_lit (t := 11) (b := true) rfl ?_ | refine g_lit (t := 11) (b := false) rfl ?_ | refine g_ulit (t := 11) rfl ?_ | refine g_split (t := 11) rfl (fun h => ?_) (fun h => ?_)
    all_goals first | refine awpOps_cons (g_off rfl rfl rfl rfl rfl) ?_ | refine awpOps_cons (g_und rfl rfl rfl) ?_ | refine awpOps_cons (g_on rfl rfl rfl (op_mv rfl (Conv.of rfl) rfl)) ?_ | refine awpOps_cons (g_on rfl rfl rfl (op_mvl rfl rfl rfl rfl)) ?_ | refine awpOps_cons (g_on rfl rfl rfl (op_mvo rfl rfl rfl rfl)) ?_
    all_goals first | refine awpOps_cons (g_off rfl rfl rfl rfl rfl) ?_ | refine awpOps_cons (g_und rfl rfl rfl) ?_ | refine awpOps_cons (g_on rfl rfl rfl (op_len sl51 rfl rfl)) ?_ | refine awpOps_cons (g_on rfl rfl rfl (op_lenA sl51 rfl rfl rfl)) ?_
    all_goals first | refine awpOps_cons (g_off rfl rfl rfl rfl rfl) ?_ | refine awpOps_cons (g_und rfl rfl rfl) ?_ | refine awpOps_cons (g_on rfl rfl rfl (op_gtr rfl rfl rfl)) ?_
    all_goals refine awpOps_cons (op_pick rfl rfl rfl rfl) ?_
    all_goals refine awpOps_nil ?_
    all_goals exact Le.mk rfl (tle rfl (rfl) rfl (tlb rfl rfl rfl (tle rfl (by first | rfl | (show AV.v _ = AV.v _; simp_all; try omega)) rfl tln))) (olk rfl (by first | exact obOk_cell | exact obOk_arr | exact obOkW rfl | exact obOkW0 | exact obOkN | exact obOkS rfl | exact obOkNs | exact obOkS0 | trivial) oln) noS
  first | refine awp_seq (awp_cond rfl (fun h2 => ?_) (fun h2 => absurd h2 (by decide))) | refine awp_seq (awp_seq (awp_cond rfl (fun h2 => ?_) (fun h2 => absurd h2 (by decide)))) | refine awp_cond rfl (fun h2 => ?_) (fun h2 => absurd h2 (by decide)) | refine awp_seq (awp_seq (awp_seq (awp_cond rfl (fun h2 => ?_) (fun h2 => absurd h2 (by decide)))))
  all_goals first | refine awp_seq (awp_region (id := 2) ?_) | refine awp_seq (awp_seq (awp_region (id := 2) ?_)) | refine awp_region (id := 2) ?_ | refine awp_seq (awp_seq (awp_seq (awp_region (id := 2) ?_)))
  all_goals refine awpOps_cons (op_build (.nil _) z29 rfl pl29 rfl) ?_
  all_goals first | refine awpOps_cons (op_st ty29 rfl rfl (Conv.of rfl) rfl) ?_ | refine awpOps_cons (op_ste ty29 rfl rfl (Conv.of rfl) rfl (by assumption)) ?_ | refine awpOps_cons (op_stm ty29 rfl rfl rfl) ?_ | refine awpOps_cons (op_stme ty29 rfl rfl rfl (by assumption)) ?_
  all_goals refine awpOps_nil ?_
  refine awp_ret ?_
  repeat first | refine rt_seq ?_ | refine rt_block ?_
  exact finP (.rc ty29 rfl rfl) rfl rfl
theorem worldCalmA_ct (w : Wrld) (pays : List Pay) (h : worldOk w = true) (hp : pays.length ≤ 30) : Ct Tryz.prog 27 [.v w, .v pays] noObj (fun r1 h1 => r1 = .v (WrldA.mk (pays.foldl calmF w).epoch (.ref 2) (pays.foldl calmF w).log (pays.foldl calmF w).bad) ∧ h1 = obs [(2, .arr (pays.foldl calmF w).nodes)]) := by
  have hf := (worldOk_iff.1 h).fx.fine
  refine Ct.intro Tryz.func27 rfl rfl ?_
  all_goals first | refine awp_seq (awp_region (id := 0) ?_) | refine awp_seq (awp_seq (awp_region (id := 0) ?_)) | refine awp_region (id := 0) ?_ | refine awp_seq (awp_seq (awp_seq (awp_region (id := 0) ?_)))
  all_goals first | refine awpOps_cons (op_box (o := 5) ty29 rfl (Conv.of rfl) rfl rfl) ?_ | refine awpOps_cons (op_boxm (o := 5) ty29 rfl rfl rfl rfl) ?_
  all_goals refine awpOps_cons (op_alloc (o := 6) z29_WrldA rfl rfl) ?_
  all_goals refine awpOps_nil ?_
  first | refine awp_seq (awp_seq (awp_seq (awp_seq_to (s' := mkSt 30 [(1, .v pays), (2, .box 5 (IsLens.whole Wrld)), (4, .box 6 (IsLens.whole WrldA)), (15, .v false)] [(5, .cell w), (6, .cell WrldA.zero)]) ?_ ?_))) | refine awp_seq (awp_seq (awp_seq_to (s' := mkSt 30 [(1, .v pays), (2, .box 5 (IsLens.whole Wrld)), (4, .box 6 (IsLens.whole WrldA)), (15, .v false)] [(5, .cell w), (6, .cell WrldA.zero)]) ?_ ?_)) | refine awp_seq (awp_seq_to (s' := mkSt 30 [(1, .v pays), (2, .box 5 (IsLens.whole Wrld)), (4, .box 6 (IsLens.whole WrldA)), (15, .v false)] [(5, .cell w), (6, .cell WrldA.zero)]) ?_ ?_) | refine awp_seq_to (s' := mkSt 30 [(1, .v pays), (2, .box 5 (IsLens.whole Wrld)), (4, .box 6 (IsLens.whole WrldA)), (15, .v false)] [(5, .cell w), (6, .cell WrldA.zero)]) ?_ ?_ | refine awp_toB (s' := mkSt 30 [(1, .v pays), (2, .box 5 (IsLens.whole Wrld)), (4, .box 6 (IsLens.whole WrldA)), (15, .v false)] [(5, .cell w), (6, .cell WrldA.zero)]) ?_ ?_ | refine awp_to (s' := mkSt 30 [(1, .v pays), (2, .box 5 (IsLens.whole Wrld)), (4, .box 6 (IsLens.whole WrldA)), (15, .v false)] [(5, .cell w), (6, .cell WrldA.zero)]) ?_ ?_
  · all_goals first | refine awp_seq (awp_region (id := 1) ?_) | refine awp_seq (awp_seq (awp_region (id := 1) ?_)) | refine awp_region (id := 1) ?_ | refine awp_seq (awp_seq (awp_seq (awp_region (id := 1) ?_)))
    all_goals first | refine awpOps_cons (op_ld ty29_Wrld rfl rfl rfl) ?_ | refine awpOps_cons (op_ldr ty29_Wrld rfl rfl) ?_ | refine awpOps_cons (op_lde ty29_Wrld rfl rfl (by assumption) rfl) ?_ | refine awpOps_cons (op_ldl ty29_Wrld rfl rfl rfl) ?_ | refine awpOps_cons (op_ldd ty29_Wrld rfl rfl rfl) ?_ | refine awpOps_cons (op_ldde ty29_Wrld rfl rfl (by assumption) rfl) ?_
    all_goals refine awpOps_cons (op_call fb30 (.cons rfl (Conv.of rfl) (.nil _)) (worldOk_ct _) (argOk rfl rfl argOk0) rfl rfl) ?_
    all_goals refine awpOps_cons (op_not rfl rfl) ?_
    all_goals first | refine awpOps_cons (op_mv rfl (Conv.of rfl) rfl) ?_ | refine awpOps_cons (op_mvl rfl rfl rfl rfl) ?_ | refine awpOps_cons (op_mvo rfl rfl rfl rfl) ?_
    all_goals first | refine g_lit (t := 11) (b := true) rfl ?_ | refine g_lit (t := 11) (b := false) rfl ?_ | refine g_ulit (t := 11) rfl ?_ | refine g_split (t := 11) rfl (fun h => ?_) (fun h => ?_)
    all_goals first | refine awpOps_cons (g_off rfl rfl rfl rfl rfl) ?_ | refine awpOps_cons (g_und rfl rfl rfl) ?_ | refine awpOps_cons (g_on rfl rfl rfl (op_mv rfl (Conv.of rfl) rfl)) ?_ | refine awpOps_cons (g_on rfl rfl rfl (op_mvl rfl rfl rfl rfl)) ?_ | refine awpOps_cons (g_on rfl rfl rfl (op_mvo rfl rfl rfl rfl)) ?_
    all_goals first | refine awpOps_cons (g_off rfl rfl rfl rfl rfl) ?_ | refine awpOps_cons (g_und rfl rfl rfl) ?_ | refine awpOps_cons (g_on rfl rfl rfl (op_len sl51 rfl rfl)) ?_ | refine awpOps_cons (g_on rfl rfl rfl (op_lenA sl51 rfl rfl rfl)) ?_
    all_goals first | refine awpOps_cons (g_off rfl rfl rfl rfl rfl) ?_ | refine awpOps_cons (g_und rfl rfl rfl) ?_ | refine awpOps_cons (g_on rfl rfl rfl (op_gtr rfl rfl rfl)) ?_
    all_goals refine awpOps_cons (op_pick rfl rfl rfl rfl) ?_
    all_goals refine awpOps_nil ?_
    all_goals exact Le.mk rfl (tle rfl (rfl) rfl (tlb rfl rfl rfl (tlb rfl rfl rfl (tle rfl (by first | rfl | (show AV.v _ = AV.v _; simp_all; try omega)) rfl tln)))) (olk rfl (by first | exact obOk_cell | exact obOk_arr | exact obOkW rfl | exact obOkW0 | exact obOkN | exact obOkS rfl | exact obOkNs | exact obOkS0 | trivial) (olk rfl (by first | exact obOk_cell | exact obOk_arr | exact obOkW rfl | exact obOkW0 | exact obOkN | exact obOkS rfl | exact obOkNs | exact obOkS0 | trivial) oln)) noS
  first | refine awp_seq (awp_cond rfl (fun h2 => absurd h2 (by decide)) (fun h2 => ?_)) | refine awp_seq (awp_seq (awp_cond rfl (fun h2 => absurd h2 (by decide)) (fun h2 => ?_))) | refine awp_cond rfl (fun h2 => absurd h2 (by decide)) (fun h2 => ?_) | refine awp_seq (awp_seq (awp_seq (awp_cond rfl (fun h2 => absurd h2 (by decide)) (fun h2 => ?_))))
  refine awp_skip ?_
  all_goals first | refine awp_seq (awp_region (id := 3) ?_) | refine awp_seq (awp_seq (awp_region (id := 3) ?_)) | refine awp_region (id := 3) ?_ | refine awp_seq (awp_seq (awp_seq (awp_region (id := 3) ?_)))
  all_goals first | refine awpOps_cons (op_ld ty29_Wrld rfl rfl rfl) ?_ | refine awpOps_cons (op_ldr ty29_Wrld rfl rfl) ?_ | refine awpOps_cons (op_lde ty29_Wrld rfl rfl (by assumption) rfl) ?_ | refine awpOps_cons (op_ldl ty29_Wrld rfl rfl rfl) ?_ | refine awpOps_cons (op_ldd ty29_Wrld rfl rfl rfl) ?_ | refine awpOps_cons (op_ldde ty29_Wrld rfl rfl (by assumption) rfl) ?_
  refine awpOps_callO [] rfl fb56 (.cons rfl (Conv.of rfl) (.nil _)) (copiedP_w w hf) ols0 oks0 (argOk' rfl rfl argO0) rfl ?_
  rintro r h' ⟨rfl, rfl⟩
  refine ⟨[(1, .arr w.nodes)], rfl, (fun o ho => by cases ho), fun o ho _ => ?_, oksk obOk_arr oks0, fun o ho => ?_, ?_⟩
  · have : o = 1 := by simpa [keys, lk0] using ho
    subst this; rfl
  · have : o = 1 := by simpa using (show o ∈ [1] from ho)
    subst this; rfl
  all_goals refine awpOps_cons (op_alloc (o := 0) z29_WrldA rfl rfl) ?_
  all_goals first | refine awpOps_cons (op_st ty29_WrldA rfl rfl (Conv.of rfl) rfl) ?_ | refine awpOps_cons (op_ste ty29_WrldA rfl rfl (Conv.of rfl) rfl (by assumption)) ?_ | refine awpOps_cons (op_stm ty29_WrldA rfl rfl rfl) ?_ | refine awpOps_cons (op_stme ty29_WrldA rfl rfl rfl (by assumption)) ?_
  all_goals refine awpOps_nil ?_
  all_goals first | refine awp_seq (awp_region (id := 4) ?_) | refine awp_seq (awp_seq (awp_region (id := 4) ?_)) | refine awp_region (id := 4) ?_ | refine awp_seq (awp_seq (awp_seq (awp_region (id := 4) ?_)))
  all_goals first | refine awpOps_cons (op_mv rfl (Conv.of rfl) rfl) ?_ | refine awpOps_cons (op_mvl rfl rfl rfl rfl) ?_ | refine awpOps_cons (op_mvo rfl rfl rfl rfl) ?_
  all_goals first | refine awpOps_cons (op_len sl51 rfl rfl) ?_ | refine awpOps_cons (op_lenA sl51 rfl rfl rfl) ?_
  all_goals refine awpOps_cons (op_mv rfl (Conv.of rfl) rfl) ?_
  all_goals refine awpOps_nil ?_
  first | refine awp_seq (awp_block ?_) | refine awp_seq (awp_seq (awp_block ?_)) | refine awp_block ?_ | refine awp_seq (awp_seq (awp_seq (awp_block ?_)))
  first | refine awp_seq (awp_loop' (fun n s => ∃ (k : Nat), ∃ (hn : n + k = pays.length), s = mkSt 30 [(4, .box 6 (IsLens.whole WrldA)), (5, .box 0 (IsLens.whole WrldA)), (19, .v pays), (20, .v (pays.length : Int)), (21, .v (k : Int))] [(0, .cell (wA ((pays.take k).foldl calmF w))), (1, .arr ((pays.take k).foldl calmF w).nodes), (6, .cell WrldA.zero)]) (pays.length) ⟨0, by omega, rfl⟩ (Le.mk rfl (tlb rfl rfl rfl (tlb rfl rfl rfl (tle rfl (rfl) rfl (tle rfl (rfl) rfl (tle rfl (rfl) rfl tln))))) (olk (by first | rfl | (rw [foldl_at calmF _ hx]; rfl)) (by first | exact obOk_cell | exact obOk_arr | exact obOkW rfl | exact obOkW0 | exact obOkN | exact obOkS rfl | exact obOkNs | exact obOkS0 | trivial) (olk (by first | rfl | (rw [foldl_at calmF _ hx]; rfl)) (by first | exact obOk_cell | exact obOk_arr | exact obOkW rfl | exact obOkW0 | exact obOkN | exact obOkS rfl | exact obOkNs | exact obOkS0 | trivial) (olk rfl (by first | exact obOk_cell | exact obOk_arr | exact obOkW rfl | exact obOkW0 | exact obOkN | exact obOkS rfl | exact obOkNs | exact obOkS0 | trivial) oln))) noS) ?_) | refine awp_seq (awp_seq (awp_loop' (fun n s => ∃ (k : Nat), ∃ (hn : n + k = pays.length), s = mkSt 30 [(4, .box 6 (IsLens.whole WrldA)), (5, .box 0 (IsLens.whole WrldA)), (19, .v pays), (20, .v (pays.length : Int)), (21, .v (k : Int))] [(0, .cell (wA ((pays.take k).foldl calmF w))), (1, .arr ((pays.take k).foldl calmF w).nodes), (6, .cell WrldA.zero)]) (pays.length) ⟨0, by omega, rfl⟩ (Le.mk rfl (tlb rfl rfl rfl (tlb rfl rfl rfl (tle rfl (rfl) rfl (tle rfl (rfl) rfl (tle rfl (rfl) rfl tln))))) (olk (by first | rfl | (rw [foldl_at calmF _ hx]; rfl)) (by first | exact obOk_cell | exact obOk_arr | exact obOkW rfl | exact obOkW0 | exact obOkN | exact obOkS rfl | exact obOkNs | exact obOkS0 | trivial) (olk (by first | rfl | (rw [foldl_at calmF _ hx]; rfl)) (by first | exact obOk_cell | exact obOk_arr | exact obOkW rfl | exact obOkW0 | exact obOkN | exact obOkS rfl | exact obOkNs | exact obOkS0 | trivial) (olk rfl (by first | exact obOk_cell | exact obOk_arr | exact obOkW rfl | exact obOkW0 | exact obOkN | exact obOkS rfl | exact obOkNs | exact obOkS0 | trivial) oln))) noS) ?_)) | refine awp_loop' (fun n s => ∃ (k : Nat), ∃ (hn : n + k = pays.length), s = mkSt 30 [(4, .box 6 (IsLens.whole WrldA)), (5, .box 0 (IsLens.whole WrldA)), (19, .v pays), (20, .v (pays.length : Int)), (21, .v (k : Int))] [(0, .cell (wA ((pays.take k).foldl calmF w))), (1, .arr ((pays.take k).foldl calmF w).nodes), (6, .cell WrldA.zero)]) (pays.length) ⟨0, by omega, rfl⟩ (Le.mk rfl (tlb rfl rfl rfl (tlb rfl rfl rfl (tle rfl (rfl) rfl (tle rfl (rfl) rfl (tle rfl (rfl) rfl tln))))) (olk (by first | rfl | (rw [foldl_at calmF _ hx]; rfl)) (by first | exact obOk_cell | exact obOk_arr | exact obOkW rfl | exact obOkW0 | exact obOkN | exact obOkS rfl | exact obOkNs | exact obOkS0 | trivial) (olk (by first | rfl | (rw [foldl_at calmF _ hx]; rfl)) (by first | exact obOk_cell | exact obOk_arr | exact obOkW rfl | exact obOkW0 | exact obOkN | exact obOkS rfl | exact obOkNs | exact obOkS0 | trivial) (olk rfl (by first | exact obOk_cell | exact obOk_arr | exact obOkW rfl | exact obOkW0 | exact obOkN | exact obOkS rfl | exact obOkNs | exact obOkS0 | trivial) oln))) noS) ?_ | refine awp_seq (awp_seq (awp_seq (awp_loop' (fun n s => ∃ (k : Nat), ∃ (hn : n + k = pays.length), s = mkSt 30 [(4, .box 6 (IsLens.whole WrldA)), (5, .box 0 (IsLens.whole WrldA)), (19, .v pays), (20, .v (pays.length : Int)), (21, .v (k : Int))] [(0, .cell (wA ((pays.take k).foldl calmF w))), (1, .arr ((pays.take k).foldl calmF w).nodes), (6, .cell WrldA.zero)]) (pays.length) ⟨0, by omega, rfl⟩ (Le.mk rfl (tlb rfl rfl rfl (tlb rfl rfl rfl (tle rfl (rfl) rfl (tle rfl (rfl) rfl (tle rfl (rfl) rfl tln))))) (olk (by first | rfl | (rw [foldl_at calmF _ hx]; rfl)) (by first | exact obOk_cell | exact obOk_arr | exact obOkW rfl | exact obOkW0 | exact obOkN | exact obOkS rfl | exact obOkNs | exact obOkS0 | trivial) (olk (by first | rfl | (rw [foldl_at calmF _ hx]; rfl)) (by first | exact obOk_cell | exact obOk_arr | exact obOkW rfl | exact obOkW0 | exact obOkN | exact obOkS rfl | exact obOkNs | exact obOkS0 | trivial) (olk rfl (by first | exact obOk_cell | exact obOk_arr | exact obOkW rfl | exact obOkW0 | exact obOkN | exact obOkS rfl | exact obOkNs | exact obOkS0 | trivial) oln))) noS) ?_)))
  rintro n s ⟨k, hn, rfl⟩
  have hfine : Fine ((pays.take k).foldl calmF w) := calmFold_fine _ hf
  all_goals first | refine awp_seq (awp_region (id := 5) ?_) | refine awp_seq (awp_seq (awp_region (id := 5) ?_)) | refine awp_region (id := 5) ?_ | refine awp_seq (awp_seq (awp_seq (awp_region (id := 5) ?_)))
  all_goals refine awpOps_cons (op_lss rfl rfl rfl) ?_
  all_goals refine awpOps_nil ?_
  first | refine awp_seq (awp_cond rfl (fun h => ?_) (fun h => ?_)) | refine awp_seq (awp_seq (awp_cond rfl (fun h => ?_) (fun h => ?_))) | refine awp_cond rfl (fun h => ?_) (fun h => ?_) | refine awp_seq (awp_seq (awp_seq (awp_cond rfl (fun h => ?_) (fun h => ?_))))
  · have hlt : k < pays.length := by simpa using h
    have hx : pays[k]? = some pays[k] := List.getElem?_eq_getElem hlt
    refine awp_skip ?_
    first | refine awp_seq (awp_block ?_) | refine awp_seq (awp_seq (awp_block ?_)) | refine awp_block ?_ | refine awp_seq (awp_seq (awp_seq (awp_block ?_)))
    all_goals first | refine awp_seq (awp_region (id := 6) ?_) | refine awp_seq (awp_seq (awp_region (id := 6) ?_)) | refine awp_region (id := 6) ?_ | refine awp_seq (awp_seq (awp_seq (awp_region (id := 6) ?_)))
    all_goals first | refine awpOps_cons (op_ix sl51 rfl rfl rfl (by omega) hx) ?_ | refine awpOps_cons (op_ixA sl51 rfl rfl rfl rfl (by omega)) ?_
    all_goals first | refine awpOps_cons (op_ld ty58 rfl rfl rfl) ?_ | refine awpOps_cons (op_ldr ty58 rfl rfl) ?_ | refine awpOps_cons (op_lde ty58 rfl rfl (by assumption) rfl) ?_ | refine awpOps_cons (op_ldl ty58 rfl rfl rfl) ?_ | refine awpOps_cons (op_ldd ty58 rfl rfl rfl) ?_ | refine awpOps_cons (op_ldde ty58 rfl rfl (by assumption) rfl) ?_
    all_goals refine awpOps_cons (op_alloc (o := 7) z58 rfl rfl) ?_
    all_goals first | refine awpOps_cons (op_st ty58 rfl rfl (Conv.of rfl) rfl) ?_ | refine awpOps_cons (op_ste ty58 rfl rfl (Conv.of rfl) rfl (by assumption)) ?_ | refine awpOps_cons (op_stm ty58 rfl rfl rfl) ?_ | refine awpOps_cons (op_stme ty58 rfl rfl rfl (by assumption)) ?_
    all_goals refine awpOps_nil ?_
    all_goals first | refine awp_seq (awp_region (id := 7) ?_) | refine awp_seq (awp_seq (awp_region (id := 7) ?_)) | refine awp_region (id := 7) ?_ | refine awp_seq (awp_seq (awp_seq (awp_region (id := 7) ?_)))
    all_goals first | refine awpOps_cons (op_ld ty58 rfl rfl rfl) ?_ | refine awpOps_cons (op_ldr ty58 rfl rfl) ?_ | refine awpOps_cons (op_lde ty58 rfl rfl (by assumption) rfl) ?_ | refine awpOps_cons (op_ldl ty58 rfl rfl rfl) ?_ | refine awpOps_cons (op_ldd ty58 rfl rfl rfl) ?_ | refine awpOps_cons (op_ldde ty58 rfl rfl (by assumption) rfl) ?_
    all_goals refine awpOps_cons (op_callO fb74 (.cons rfl (Conv.of rfl) (.cons rfl (Conv.of rfl) (.nil _))) (calm_ct _ pays[k] hfine) (olsk rfl (olsk rfl ols0)) (oksk (by first | exact obOk_cell | exact obOk_arr | exact obOkW rfl | exact obOkW0 | exact obOkN | exact obOkS rfl | exact obOkNs | exact obOkS0 | trivial) (oksk (by first | exact obOk_cell | exact obOk_arr | exact obOkW rfl | exact obOkW0 | exact obOkN | exact obOkS rfl | exact obOkNs | exact obOkS0 | trivial) oks0)) (oksk (by first | exact obOk_cell | exact obOk_arr | exact obOkW rfl | exact obOkW0 | exact obOkN | exact obOkS rfl | exact obOkNs | exact obOkS0 | trivial) (oksk (by first | exact obOk_cell | exact obOk_arr | exact obOkW rfl | exact obOkW0 | exact obOkN | exact obOkS rfl | exact obOkNs | exact obOkS0 | trivial) oks0)) rfl (argOb rfl rfl rfl (argOk' rfl rfl argO0)) (fun o ho => by cases ho) rfl) ?_
    all_goals refine awpOps_nil ?_
    all_goals first | refine awp_seq (awp_region (id := 8) ?_) | refine awp_seq (awp_seq (awp_region (id := 8) ?_)) | refine awp_region (id := 8) ?_ | refine awp_seq (awp_seq (awp_seq (awp_region (id := 8) ?_)))
    all_goals refine awpOps_cons (op_add rfl rfl rfl (by omega)) ?_
    all_goals first | refine awpOps_cons (op_mv rfl (Conv.of rfl) rfl) ?_ | refine awpOps_cons (op_mvl rfl rfl rfl rfl) ?_ | refine awpOps_cons (op_mvo rfl rfl rfl rfl) ?_
    all_goals refine awpOps_nil ?_
    repeat first | refine nx_seq ?_ | refine nx_block ?_
    exact ⟨n - 1, _, by omega, ⟨k + 1, by omega, rfl⟩, Le.mk rfl (tlb rfl rfl rfl (tlb rfl rfl rfl (tle rfl (rfl) rfl (tle rfl (rfl) rfl (tle rfl (rfl) rfl tln))))) (olk (by first | rfl | (rw [foldl_at calmF _ hx]; rfl)) (by first | exact obOk_cell | exact obOk_arr | exact obOkW rfl | exact obOkW0 | exact obOkN | exact obOkS rfl | exact obOkNs | exact obOkS0 | trivial) (olk (by first | rfl | (rw [foldl_at calmF _ hx]; rfl)) (by first | exact obOk_cell | exact obOk_arr | exact obOkW rfl | exact obOkW0 | exact obOkN | exact obOkS rfl | exact obOkNs | exact obOkS0 | trivial) (olk rfl (by first | exact obOk_cell | exact obOk_arr | exact obOkW rfl | exact obOkW0 | exact obOkN | exact obOkS rfl | exact obOkNs | exact obOkS0 | trivial) oln))) noS⟩
  · refine awp_exit ?_
    repeat refine ex_seq ?_
    refine ex_block ?_
    have hk : pays.length ≤ k := by simpa using h
    have hp2 : (pays.take k).foldl calmF w = pays.foldl calmF w := by rw [take_end hk]
    rw [hp2] at hfine ⊢
    all_goals first | refine awp_seq (awp_region (id := 9) ?_) | refine awp_seq (awp_seq (awp_region (id := 9) ?_)) | refine awp_region (id := 9) ?_ | refine awp_seq (awp_seq (awp_seq (awp_region (id := 9) ?_)))
    all_goals first | refine awpOps_cons (op_ld ty29_WrldA rfl rfl rfl) ?_ | refine awpOps_cons (op_ldr ty29_WrldA rfl rfl) ?_ | refine awpOps_cons (op_lde ty29_WrldA rfl rfl (by assumption) rfl) ?_ | refine awpOps_cons (op_ldl ty29_WrldA rfl rfl rfl) ?_ | refine awpOps_cons (op_ldd ty29_WrldA rfl rfl rfl) ?_ | refine awpOps_cons (op_ldde ty29_WrldA rfl rfl (by assumption) rfl) ?_
    refine awpOps_callO [(1, .arr (pays.foldl calmF w).nodes)] rfl fb56 (.cons rfl (Conv.of rfl) (.nil _)) (copiedA_w _ hfine) (olsk rfl ols0) (oksk obOk_arr oks0) (argOb rfl rfl rfl argO0) rfl ?_
    rintro r h' ⟨rfl, rfl⟩
    refine ⟨[(1, .arr (pays.foldl calmF w).nodes), (2, .arr (pays.foldl calmF w).nodes)], rfl, fun o ho => ?_, fun o ho h1 => ?_, oksk obOk_arr (oksk obOk_arr oks0), fun o ho => ?_, ?_⟩
    · have : o = 1 := by simpa [keys, lk0] using ho
      subst this; rfl
    · by_cases e : o = 1
      · subst e; cases h1
      · have : o = 2 := by simpa [keys, lk0, e] using ho
        subst this; rfl
    · have : o = 2 := by simpa using (show o ∈ [2] from ho)
      subst this; rfl
    all_goals first | refine awpOps_cons (op_st ty29_WrldA rfl rfl (Conv.of rfl) rfl) ?_ | refine awpOps_cons (op_ste ty29_WrldA rfl rfl (Conv.of rfl) rfl (by assumption)) ?_ | refine awpOps_cons (op_stm ty29_WrldA rfl rfl rfl) ?_ | refine awpOps_cons (op_stme ty29_WrldA rfl rfl rfl (by assumption)) ?_
    all_goals refine awpOps_nil ?_
    refine awp_ret ?_
    repeat first | refine rt_seq ?_ | refine rt_block ?_
    refine ⟨_, _, res1 (ol := [(2, .arr (pays.foldl calmF w).nodes)]) (.rc ty29_WrldA rfl rfl) (fun o ho => ?_) (olk rfl obOk_arr oln) noS, rfl, rfl⟩
    have : o = 2 := by simpa using (show o ∈ [2] from ho)
    subst this; rfl
theorem worldCalm_ct (w : Wrld) (pays : List Pay) : CtP Tryz.prog 27 [.v w, .v pays] (.v (worldCalmR w pays)) := by
  unfold worldCalmR
  cases h : worldOk w && decide (pays.length ≤ 30) with
  | false => exact worldCalmBad_ct w pays h
  | true =>
    simp only [Bool.and_eq_true, decide_eq_true_eq] at h
    exact Ct.frz (worldCalmA_ct w pays h.1 h.2) (frz_one (big4 (calmFold_fine _ (worldOk_iff.1 h.1).fx.fine).four))
theorem playR_small (bad : Int) (evs : List Evt) : Small (playR bad evs).1 := by
  unfold playR
  split
  · rename_i hh
    simp only [Bool.and_eq_true] at hh
    exact (Inv.play hh.1 evs).small
  · exact small_zero
end Go.Proofs.YtmdhfalfppkpeaaGreat

/- A part of a row that is written in place; a copy of one number into it. -/
set_option linter.unusedVariables false
set_option linter.unusedSimpArgs false
namespace Go.Wt
open Go
/-- A part of the row that is object `o`, from the element at `off` on, `n` long. -/
structure SRef where
  o : Nat
  off : Nat
  n : Nat
instance : Enc SRef where
  size := 1
  agg := false
  size_pos := by decide
  agg_size := fun _ => rfl
  rd := fun G _ _ r cs => ∃ b m c c', cs = [.slice (some ⟨b, r.off, none⟩) r.n c] ∧ G.hdr r.o = some (.slice (some ⟨b, 0, none⟩) m c') ∧ r.n ≤ c
  refs := fun r => [r.o]
  dis := fun r => r
  len := fun ⟨_, _, _, _, h, _⟩ => by rw [h]; rfl
  one := fun ⟨_, _, _, _, h, _⟩ c hc => by rw [h] at hc; simp at hc; rw [hc]; rfl
  mono := fun _ _ hm ⟨b, m, c, c', h1, h2, h3⟩ => ⟨b, m, c, c', h1, hm _ (by simp) _ h2, h3⟩
  mono_dis := fun _ hm ⟨b, m, c, c', h1, h2, h3⟩ => ⟨b, m, c, c', h1, hm _ (by simp) _ h2, h3⟩
instance : Disl SRef := ⟨fun _ => rfl⟩
theorem RelV.sref {G w ω u} {r : SRef} (h : RelV G w ω (.v r) u) : ∃ b m c c', u = .slice (some ⟨b, r.off, none⟩) r.n c ∧ G.hdr r.o = some (.slice (some ⟨b, 0, none⟩) m c') ∧ r.n ≤ c := by
  obtain ⟨cs, ⟨b, m, c, c', h1, h2, h4⟩, h3⟩ := h
  exact ⟨b, m, c, c', by rw [h3, h1]; rfl, h2, h4⟩
variable {P : Program} {S : Nat → Prop} {ops : Array Oper} {st : St}
variable {d : Nat} {T pos aft} {x y z : Operand}
theorem op_slA {E bytes t : TypeId} {o : Nat} {xs : List Int} {l : Int} (sl : SlOk P t E bytes Int) (hx : st.ev x = some (.v (NRef.ref o))) (hy : st.ev y = some (.v l)) (ho : st.ob o = .arr xs) (hn : Nat.blt d st.n = true) (hb : 0 ≤ l ∧ l.toNat < xs.length) :
    OpOk P S ops ⟨some d, .slice t x (some y) none none, T, pos, aft, none⟩ (opT x ++ opT y) [o] [(d, some (.v (SRef.mk o l.toNat (xs.length - l.toNat))))] [] st :=
  OpOk.value rfl rfl (by simpa using hn) fun st1 hag G w a hr => by
    obtain ⟨ad, n, c, h1, h2⟩ := RelV.ref (hr.at hag hx fun t ht => by simp [ht])
    have e2 := RelV.int (hr.at hag hy fun t ht => by simp [ht])
    have hob := hr.objs o
    rw [hag.ob o (by simp), ho] at hob
    obtain ⟨b, cap, cs, e, k1, k2', k3', _⟩ := hob
    have k0 := k1
    rw [h2] at k1
    injection k1 with k1
    injection k1 with k1 k2 k3
    subst k1 k2 k3
    obtain ⟨q1, q2⟩ := sl.elem
    refine ⟨sliced (some ⟨b, 0, none⟩) l.toNat xs.length c (Enc.size Int), ?_, [_], ⟨b, xs.length, c - l.toNat, c, ?_, k0, by show xs.length - l.toNat ≤ c - l.toNat; omega⟩, by simp [Enc.val, Enc.agg]; rfl⟩
    · simp only [execOp, h1, e2, Option.map_none, Option.map_some, Sem.run_bind, run_sliceAt_slice _ _ _ _ _ _ q1, run_slice_l w t _ xs.length c q1 .i64 l hb.1 (by omega), q2, sl.el.size, Result.andThen_ok, Sem.run_pure]
    · simp only [sliced]
      rw [if_neg (by omega)]
      simp [Addr.add, Enc.size]
      try (intro; omega)
theorem op_slAh {E bytes t : TypeId} {o : Nat} {xs : List Int} {h : Int} (sl : SlOk P t E bytes Int) (hx : st.ev x = some (.v (NRef.ref o))) (hy : st.ev z = some (.v h)) (ho : st.ob o = .arr xs) (hn : Nat.blt d st.n = true) (hb : 0 ≤ h ∧ h.toNat ≤ xs.length) :
    OpOk P S ops ⟨some d, .slice t x none (some z) none, T, pos, aft, none⟩ (opT x ++ opT z) [o] [(d, some (.v (SRef.mk o 0 h.toNat)))] [] st :=
  OpOk.value rfl rfl (by simpa using hn) fun st1 hag G w a hr => by
    obtain ⟨ad, n, c, h1, h2⟩ := RelV.ref (hr.at hag hx fun t ht => by simp [ht])
    have e2 := RelV.int (hr.at hag hy fun t ht => by simp [ht])
    have hob := hr.objs o
    rw [hag.ob o (by simp), ho] at hob
    obtain ⟨b, cap, cs, e, k1, k2', k3', _⟩ := hob
    have k0 := k1
    rw [h2] at k1
    injection k1 with k1
    injection k1 with k1 k2 k3
    subst k1 k2 k3
    obtain ⟨q1, q2⟩ := sl.elem
    refine ⟨sliced (some ⟨b, 0, none⟩) 0 h.toNat c (Enc.size Int), ?_, [_], ⟨b, xs.length, c, c, ?_, k0, by show h.toNat ≤ c; omega⟩, by simp [Enc.val, Enc.agg]; rfl⟩
    · simp only [execOp, h1, e2, Option.map_none, Option.map_some, Sem.run_bind, run_sliceAt_slice _ _ _ _ _ _ q1, run_slice_h w t _ xs.length c q1 .i64 h hb.1 (by omega), q2, sl.el.size, Result.andThen_ok, Sem.run_pure]
    · simp only [sliced]
      split <;> simp [Addr.add]
/-- The first number of what is copied from. -/
def Fst (st : St) (y : Operand) (rt ro : List Nat) (n : Nat) (v : Int) : Prop := ∀ st1, Agree rt ro st st1 → ∀ G w a, RelSt G w a st1 → ∃ ad c, a.eval y = .slice (some ad) n c ∧ w.cell? ad = some (.int .i64 v)
/-- Where is copied to. -/
def Dst (st : St) (x : Operand) (rt ro : List Nat) (o k n : Nat) : Prop := ∀ st1, Agree rt ro st st1 → ∀ G w a, RelSt G w a st1 → ∃ b c m c', a.eval x = .slice (some ⟨b, k, none⟩) n c ∧ G.hdr o = some (.slice (some ⟨b, 0, none⟩) m c')
theorem fst_list {rt ro : List Nat} {v : Int} {l : List Int} {av : AV} [hs : Src Int av (v :: l)] (hx : st.ev y = some av) (hsub : ∀ t ∈ opT y, t ∈ rt) : Fst st y rt ro (l.length + 1) v := fun st1 hag G w a hr => by
  obtain ⟨ad, cap, h1, h2, h3⟩ := hs.rel (hr.at hag hx hsub)
  rcases h3 with h3 | ⟨b, off, e, _, h4⟩
  · cases h3
  · obtain ⟨c, hc, hm⟩ := h4 0 v rfl
    have hc' : c = [.int .i64 v] := hc
    subst hc'
    have := (hm 0 _ rfl).2
    refine ⟨⟨b, off, none⟩, cap, by rw [h1, e]; rfl, ?_⟩
    simpa [cl] using this
theorem fst_sref {rt ro : List Nat} {v : Int} {o n : Nat} {xs : List Int} (hx : st.ev y = some (.v (SRef.mk o 0 n))) (hsub : ∀ t ∈ opT y, t ∈ rt) (ho : st.ob o = .arr xs) (hoin : o ∈ ro) (hv : xs[0]? = some v) : Fst st y rt ro n v := fun st1 hag G w a hr => by
  obtain ⟨b, m, c, c', h1, h2, _⟩ := RelV.sref (hr.at hag hx hsub)
  have hob := hr.objs o
  rw [hag.ob o hoin, ho] at hob
  obtain ⟨b', cap, cs, e, k1, k2, k3, k4, k5, k6⟩ := hob
  have k0 := k1
  rw [h2] at k1
  injection k1 with k1
  injection k1 with k1 _ _
  injection k1 with k1
  injection k1 with k1 _ _
  subst k1
  obtain ⟨ce, r1, r2⟩ := k5 0 v hv
  have hce : ce = [.int .i64 v] := r1
  subst hce
  have := r2 0 _ rfl
  refine ⟨⟨b, 0, none⟩, c, h1, ?_⟩
  simp only [Nat.zero_mul, Nat.add_zero] at this
  rw [← cl_row k2 0] at this
  exact this
theorem dst_ref {rt ro : List Nat} {o : Nat} {α : Type} [Enc α] {xs : List α} (hx : st.ev x = some (.v (NRef.ref o))) (hsub : ∀ t ∈ opT x, t ∈ rt) (ho : st.ob o = .arr xs) (hoin : o ∈ ro) : Dst st x rt ro o 0 xs.length := fun st1 hag G w a hr => by
  obtain ⟨ad, n, c, h1, h2⟩ := RelV.ref (hr.at hag hx hsub)
  have hob := hr.objs o
  rw [hag.ob o hoin, ho] at hob
  obtain ⟨b', cap, cs, e, k1, k2, k3, k4, k5, k6⟩ := hob
  have k0 := k1
  rw [h2] at k1
  injection k1 with k1
  injection k1 with e1 e2 e3
  subst e1 e2 e3
  exact ⟨b', c, _, _, h1, k0⟩
theorem dst_sref {rt ro : List Nat} {o k n : Nat} (hx : st.ev x = some (.v (SRef.mk o k n))) (hsub : ∀ t ∈ opT x, t ∈ rt) : Dst st x rt ro o k n := fun st1 hag G w a hr => by
  obtain ⟨b, m, c, c', h1, h2, _⟩ := RelV.sref (hr.at hag hx hsub)
  exact ⟨b, c, m, c', h1, h2⟩
theorem op_copy1 {t t2 E bytes : TypeId} {o k n m : Nat} {v : Int} {xs : List Int} (sl : SlOk P t E bytes Int) (hD : Dst st x (opT x ++ opT y) [o] o k n) (hF : Fst st y (opT x ++ opT y) [o] m v) (ho : st.ob o = .arr xs) (hk : k < xs.length) (h1 : Nat.min m n = 1) (hn : Nat.blt d st.n = true) :
    OpOk P S ops ⟨some d, .call { callee := .builtin .copy, args := #[x, y], argTypes := #[t, t2] }, T, pos, aft, none⟩ (opT x ++ opT y) [o] [(d, some (.v (1 : Int)))] [(o, .arr (xs.set k v))] st := by
  intro st1 hag G w a hr K Q hK
  unfold stepO
  rw [if_pos (by simp [Region.wanted])]
  refine .inl ?_
  have hd' : d < st1.n := by rw [hag.n]; simpa using hn
  obtain ⟨b, c, m', c', u1, u2⟩ := hD st1 hag G w a hr
  obtain ⟨ad, cy, v1, v2⟩ := hF st1 hag G w a hr
  have hob := hr.objs o
  rw [hag.ob o (by simp), ho] at hob
  obtain ⟨b', cap, cs, te, m1, m2, m3, m4, m5, m6⟩ := hob
  have m0 := m1
  rw [u2] at m0
  injection m0 with m0
  injection m0 with e1 _ _
  injection e1 with e1
  injection e1 with e1 _ _
  subst e1
  obtain ⟨q1, q2⟩ := sl.elem
  have hcl : k < cs.length := by simp [Enc.size] at m4; omega
  have hfc := run_firstCells_some (P := P) w 1 1 ad m cy [.int .i64 v] rfl (fun j u hj => by
    have : j = 0 := by have := (List.getElem?_eq_some_iff.1 hj).1; simp at this; exact this
    subst this
    simp at hj
    subst hj
    simpa [Addr.add] using v2)
  have hst := run_storeCells_at (P := P) b k te [.int .i64 v] 0 cs.toArray w m2 (by simp; omega) (fun u hu => by simp at hu; subst hu; rfl)
  let cs' := cs.take k ++ [.int .i64 v] ++ cs.drop (k + 1)
  have hw : Wr G w o b cs cs' te := ⟨m2, m6, by simp [cs']; omega, by omega⟩
  have hst' : (storeCells ⟨b, k, none⟩ [.int .i64 v]).run P w = .ok () (w.setRow b cs'.toArray) := by
    simpa [cs'] using hst
  have hlen : (Builtin.lenOf (.slice (some ad) m cy)).run P w = .ok m w := by simp [Builtin.lenOf]
  have hcopy : (Builtin.copy_ #[t, t2] T #[.slice (some ⟨b, k, none⟩) n c, .slice (some ad) m cy]).run P w = .ok (goInt 1) (w.setRow b cs'.toArray) := by
    have hsz := sl.el.size w
    have h11 : Nat.min m n = 1 := h1
    simp only [Builtin.copy_, List.getElem?_toArray, List.getElem?_cons_zero, List.getElem?_cons_succ, Sem.run_bind, run_underlying q1, Result.andThen_ok, hlen, q2, hsz, h11]
    rw [show Enc.size Int = 1 from rfl, hfc]
    simp only [Result.andThen_ok, Sem.run_bind, hst', Sem.run_pure]
    rfl
  have hexec : (execOp a.eval ⟨some d, .call { callee := .builtin .copy, args := #[x, y], argTypes := #[t, t2] }, T, pos, aft, none⟩).run P w = .ok (.value (goInt 1)) (w.setRow b cs'.toArray) := by
    simp only [execOp, resolve, invoke, builtin, List.map_toArray, List.map_cons, List.map_nil, Sem.run_bind, Sem.run_pure, Result.andThen_ok, u1, v1, hcopy]
  unfold Oper.wp
  rw [hexec]
  simp only [Oper.upon]
  refine hK _ _ G ?_ (hw.keep S)
  have hrow : RelO G (w.setRow b cs'.toArray) o (.arr (xs.set k v)) := by
    refine ⟨b, cap, cs', te, by simpa using m1, setRow_heap _ _ _ _ _ _ m2, by simpa using m3, by rw [hw.len]; exact m4, fun i u hi => ?_, fun i hi => m6 i (by rw [hw.len] at hi; exact hi)⟩
    refine ⟨[.int .i64 u], rfl, fun j q hj => ?_⟩
    have : j = 0 := by have := (List.getElem?_eq_some_iff.1 hj).1; simp at this; exact this
    subst this
    simp at hj
    subst hj
    simp only [show Enc.size Int = 1 from rfl, Nat.mul_one, Nat.add_zero, cs']
    by_cases hik : i = k
    · subst hik
      rw [List.getElem?_set_self hk] at hi
      injection hi with hi
      subst hi
      rw [List.append_assoc, List.getElem?_append_right (by simp; omega)]
      simp [Nat.min_eq_left (Nat.le_of_lt hcl)]
    · rw [List.getElem?_set_ne (Ne.symm hik)] at hi
      obtain ⟨ce, r1, r2⟩ := m5 i u hi
      have hce : ce = [.int .i64 u] := r1
      subst hce
      have := r2 0 _ rfl
      simp only [show Enc.size Int = 1 from rfl, Nat.mul_one, Nat.add_zero] at this
      rw [← this]
      rcases Nat.lt_or_ge i k with h | h
      · rw [List.append_assoc, List.getElem?_append_left (by simp; omega), List.getElem?_take, if_pos h]
      · rw [List.getElem?_append_right (by simp; omega), List.getElem?_drop]
        congr 1
        simp
        omega
  have := (hr.write hw hrow).put (d := d) (av := some (.v (1 : Int))) hd' (relInt _ _ _ _)
  exact this
end Go.Wt
namespace Go.Wt
open Go
variable {P : Program} {S : Nat → Prop} {ops : Array Oper} {st : St}
variable {d : Nat} {T t' : TypeId} {pos : String} {aft : Array Edge} {x y z : Operand}
/-- A new row of noughts, as a named object. -/
theorem op_mkA {o : Nat} {t E : TypeId} {bytes : Nat} {n : Int} (sl : SlOk P t E bytes Int) (hz : ZeroOk P E (0 : Int)) (hx : st.ev x = some (.v n)) (h0 : 0 ≤ n) (hb : (bytes : Int) * n ≤ 281474976710656) (hn63 : n ≤ 9223372036854775807) (ho : st.ob o = .free) (hn : Nat.blt d st.n = true) :
    OpOk P S ops ⟨some d, .makeSlice t x x, T, pos, aft, none⟩ (opT x ++ opT x) [o] [(d, some (.v (NRef.ref o)))] [(o, .arr (List.replicate n.toNat (0 : Int)))] st := by
  intro st1 hg G w a hr K Q hK
  unfold stepO
  rw [if_pos (by simp [Region.wanted])]
  refine .inl ?_
  obtain ⟨hu, i, hi, hby, hsz⟩ := sl.spec
  obtain ⟨i', zcs, k1, k2, k3⟩ := hz.ok
  rw [hi] at k1
  injection k1 with k1
  subst k1
  have hzc : zcs = [.int .i64 0] := k3 G w ω0
  subst hzc
  have e1 := RelV.int (hr.at hg hx fun t ht => by simp [ht])
  have hrun := run_make (P := P) w t E i _ hu hi k2 .i64 .i64 n n h0 (Int.le_refl _) (by rw [hby]; exact hb) hn63
  have hcells : madeCells (Enc.val Int [.int .i64 0]).cells (n.toNat * i.size) = (List.replicate n.toNat (Value.int .i64 0)).toArray := by
    have : (Enc.val Int [.int .i64 0]).cells = #[Value.int .i64 0] := rfl
    rw [this, ← toList_madeCells_one, hsz]
    simp [Enc.size]
  rw [hcells] at hrun
  have hexec : (execOp a.eval ⟨some d, .makeSlice t x x, T, pos, aft, none⟩).run P w = .ok (.value (.slice (some ⟨w.heap.size, 0, none⟩) n.toNat n.toNat)) (w.alloc (.cells (List.replicate n.toNat (Value.int .i64 0)).toArray E)) := by
    simp only [execOp, e1, Sem.run_bind, hrun, Result.andThen_ok, Sem.run_pure]
  unfold Oper.wp
  rw [hexec]
  simp only [Oper.upon]
  have hrow : Rows G w (List.replicate n.toNat (0 : Int)) (List.replicate n.toNat (Value.int .i64 0)) := by
    refine ⟨by simp [Enc.size], fun j u hj => ⟨[.int .i64 u], rfl, fun q v hq => ?_⟩⟩
    have : q = 0 := by have := (List.getElem?_eq_some_iff.1 hq).1; simp at this; exact this
    subst this
    simp at hq
    subst hq
    have hj' := List.getElem?_eq_some_iff.1 hj
    obtain ⟨hl, he⟩ := hj'
    simp at hl he
    subst he
    simp [Enc.size, hl]
  obtain ⟨G', h1, h2, h3⟩ := hr.newarr (o := o) (e := E) (cap := n.toNat) (by rw [hg.ob o (by simp), ho]) hrow (by simp) (by simp [Enc.size])
  refine hK _ _ G' ?_ (h2 S)
  rw [← St.upd_upd]
  simp only [List.length_replicate] at h3
  exact h1.put (av := some _) (by show d < st1.n; rw [hg.n]; simpa using hn) ⟨_, ⟨_, _, _, rfl, h3⟩, rfl⟩
/-! ### Numbers without a sign -/
structure UN where
  n : Int
instance : Enc UN := scalarEnc (fun n => .int .u64 n.n) (fun _ => rfl)
instance : Plain UN := ⟨fun _ => rfl, fun _ => rfl⟩
theorem RelV.un {G w ω u} {n : UN} (h : RelV G w ω (.v n) u) : u = .int .u64 n.n := by obtain ⟨cs, h1, h2⟩ := h; rw [h2, show cs = [.int .u64 n.n] from h1]; rfl
theorem relUN (G w ω) (n : UN) : RelV G w ω (.v n) (.int .u64 n.n) := ⟨[.int .u64 n.n], rfl, rfl⟩
theorem wrap_u64 {m : Int} (h : 0 ≤ m ∧ m < 18446744073709551616) : IntKind.u64.wrap m = m := by
  simp [IntKind.wrap, IntKind.signed, IntKind.bits]
  omega
theorem op_cvU {s t : TypeId} {m : Int} (hx : st.ev x = some (.v m)) (hn : Nat.blt d st.n = true) (hs : (P.underlying s).isSome = true) (ht : P.underlying t = some (.int .u64)) (hm : 0 ≤ m ∧ m < 18446744073709551616) :
    OpOk P S ops ⟨some d, .convert s t x, T, pos, aft, none⟩ (opT x) [] [(d, some (.v (UN.mk m)))] [] st :=
  OpOk.value rfl rfl (by simpa using hn) fun st1 hag G w a hr => ⟨.int .u64 m, by
    have e1 := RelV.int (hr.at hag hx fun t ht => ht)
    obtain ⟨ds, hds⟩ := Option.isSome_iff_exists.1 hs
    simp only [execOp, e1, convert, Sem.run_bind, run_underlying hds, run_underlying ht, Result.andThen_ok]
    cases ds <;> simp [Conv.intToInt, wrap_u64 hm], relUN _ _ _ _⟩
theorem op_cvI {s t : TypeId} {m : UN} (hx : st.ev x = some (.v m)) (hn : Nat.blt d st.n = true) (hs : (P.underlying s).isSome = true) (ht : P.underlying t = some (.int .i64)) (hm : 0 ≤ m.n ∧ m.n < 9223372036854775808) :
    OpOk P S ops ⟨some d, .convert s t x, T, pos, aft, none⟩ (opT x) [] [(d, some (.v m.n))] [] st :=
  OpOk.value rfl rfl (by simpa using hn) fun st1 hag G w a hr => ⟨.int .i64 m.n, by
    have e1 := RelV.un (hr.at hag hx fun t ht => ht)
    obtain ⟨ds, hds⟩ := Option.isSome_iff_exists.1 hs
    have hb : IntKind.i64.wrap m.n = m.n := wrap_in (by omega)
    simp only [execOp, e1, convert, Sem.run_bind, run_underlying hds, run_underlying ht, Result.andThen_ok]
    cases ds <;> simp [Conv.intToInt, hb], relInt _ _ _ _⟩
theorem op_cvUU {s t : TypeId} {m : UN} (hx : st.ev x = some (.v m)) (hn : Nat.blt d st.n = true) (hs : (P.underlying s).isSome = true) (ht : P.underlying t = some (.int .u64)) (hm : 0 ≤ m.n ∧ m.n < 18446744073709551616) :
    OpOk P S ops ⟨some d, .convert s t x, T, pos, aft, none⟩ (opT x) [] [(d, some (.v m))] [] st :=
  OpOk.value rfl rfl (by simpa using hn) fun st1 hag G w a hr => ⟨.int .u64 m.n, by
    have e1 := RelV.un (hr.at hag hx fun t ht => ht)
    obtain ⟨ds, hds⟩ := Option.isSome_iff_exists.1 hs
    simp only [execOp, e1, convert, Sem.run_bind, run_underlying hds, run_underlying ht, Result.andThen_ok]
    cases ds <;> simp [Conv.intToInt, wrap_u64 hm], relUN _ _ _ _⟩
theorem un_bin {t : TypeId} {op : BinOp} {av : AV} {u : Value} {m n : UN} (hx : st.ev x = some (.v m)) (hy : st.ev y = some (.v n)) (hn : Nat.blt d st.n = true)
    (h1 : ∀ w : World, (binOp op t (.int .u64 m.n) (.int .u64 n.n)).run P w = .ok u w) (h3 : ∀ G w ω, RelV G w ω av u) :
    OpOk P S ops ⟨some d, .binOp op t x y t', T, pos, aft, none⟩ (opT x ++ opT y) [] [(d, some av)] [] st :=
  bin_value hn fun st1 hag G w a hr => by
    have e1 := RelV.un (hr.at hag hx fun t ht => by simp [ht])
    have e2 := RelV.un (hr.at hag hy fun t ht => by simp [ht])
    refine ⟨u, by rw [e1, e2]; exact h1 w, by rw [e1, eqGuard_at_int]; rfl, h3 _ _ _⟩
/-- With a constant. -/
theorem un_binc {t : TypeId} {op : BinOp} {av : AV} {u c : Value} {m : UN} (hx : st.ev x = some (.v m)) (hn : Nat.blt d st.n = true)
    (h1 : ∀ w : World, (binOp op t (.int .u64 m.n) c).run P w = .ok u w) (h3 : ∀ G w ω, RelV G w ω av u) :
    OpOk P S ops ⟨some d, .binOp op t x (.const c) t', T, pos, aft, none⟩ (opT x) [] [(d, some av)] [] st :=
  bin_value hn fun st1 hag G w a hr => by
    have e1 := RelV.un (hr.at hag hx fun t ht => by simp [ht])
    refine ⟨u, by rw [e1]; exact h1 w, by rw [e1, eqGuard_at_int]; rfl, h3 _ _ _⟩
end Go.Wt
namespace Go.Wt
open Go
variable {P : Program} {S : Nat → Prop} {ops : Array Oper} {st : St} {d : Nat} {T : TypeId} {pos : String} {aft : Array Edge}
theorem op_asU {n : Int} (hn : Nat.blt d st.n = true) : OpOk P S ops ⟨some d, .assign (.const (.int .u64 n)), T, pos, aft, none⟩ [] [] [(d, some (.v (UN.mk n)))] [] st :=
  OpOk.value rfl rfl (by simpa using hn) fun st1 hag G w a hr => ⟨.int .u64 n, rfl, relUN _ _ _ _⟩
end Go.Wt
namespace Go.Wt
open Go
variable {P : Program} {S : Nat → Prop} {ops : Array Oper} {st : St}
variable {d : Nat} {T : TypeId} {pos : String} {aft : Array Edge} {x y z u : Operand}
theorem op_slAhm {E bytes t : TypeId} {o : Nat} {xs : List Int} {h : Int} (sl : SlOk P t E bytes Int) (hx : st.ev x = some (.v (NRef.ref o))) (hy : st.ev z = some (.v h)) (hu : st.ev u = some (.v h)) (ho : st.ob o = .arr xs) (hn : Nat.blt d st.n = true) (hb : h = xs.length) :
    OpOk P S ops ⟨some d, .slice t x none (some z) (some u), T, pos, aft, none⟩ (opT x ++ opT z ++ opT u) [o] [(d, some (.v (SRef.mk o 0 xs.length)))] [] st :=
  OpOk.value rfl rfl (by simpa using hn) fun st1 hag G w a hr => by
    obtain ⟨ad, n, c, h1, h2⟩ := RelV.ref (hr.at hag hx fun t ht => by simp [ht])
    have e2 := RelV.int (hr.at hag hy fun t ht => by simp [ht])
    have e4 := RelV.int (hr.at hag hu fun t ht => by simp [ht])
    have hob := hr.objs o
    rw [hag.ob o (by simp), ho] at hob
    obtain ⟨b, cap, cs, e, k1, k2', k3', _⟩ := hob
    have k0 := k1
    rw [h2] at k1
    injection k1 with k1
    injection k1 with k1 k2 k3
    subst k1 k2 k3
    obtain ⟨q1, q2⟩ := sl.elem
    refine ⟨sliced (some ⟨b, 0, none⟩) 0 h.toNat h.toNat (Enc.size Int), ?_, [_], ⟨b, xs.length, h.toNat, c, ?_, k0, by show xs.length ≤ h.toNat; omega⟩, by simp [Enc.val, Enc.agg]; rfl⟩
    · simp only [execOp, h1, e2, e4, Option.map_none, Option.map_some, Sem.run_bind, run_sliceAt_slice _ _ _ _ _ _ q1, run_slice_hm w t _ xs.length c q1 .i64 .i64 h h (by omega) (by omega) (by omega), q2, sl.el.size, Result.andThen_ok, Sem.run_pure]
    · have hh : h.toNat = xs.length := by omega
      simp only [sliced, hh]
      split <;> simp [Addr.add]
theorem op_ixS {E bytes t : TypeId} {o n : Nat} {i : Int} (sl : SlOk P t E bytes Int) (hx : st.ev x = some (.v (SRef.mk o 0 n))) (hy : st.ev y = some (.v i)) (hn : Nat.blt d st.n = true)
    (h0 : 0 ≤ i ∧ i < (n : Int)) : OpOk P S ops ⟨some d, .indexAddr t x y, T, pos, aft, none⟩ (opT x ++ opT y) [] [(d, some (.elm o i.toNat (IsLens.whole Int)))] [] st :=
  OpOk.value rfl rfl (by simpa using hn) fun st1 hag G w a hr => by
    obtain ⟨b, m, c, c', h1, h2, _⟩ := RelV.sref (hr.at hag hx fun t ht => by simp [ht])
    have e2 := RelV.int (hr.at hag hy fun t ht => by simp [ht])
    refine ⟨.pointer (some ⟨b, i.toNat * Enc.size Int, none⟩), ?_, b, _, _, h2, by simp⟩
    have hsz := sl.el.size w
    simp only [execOp, Instr.indexAt, Sem.run_bind, h1, e2, asIntOf, Sem.run_pure, Result.andThen_ok, run_underlying sl.spec.1]
    simp [h0, hsz, add_lit]
/-- A row that is handed out for good. -/
theorem frz_sref {o : Nat} {xs : List Int} (hB : xs.length ≤ big) : ∀ (G : Gh) (wd : Go.World) (u : Value), RelV G wd (.ret, []) (.v (SRef.mk o 0 xs.length)) u → (∀ k, RelO G wd k (Go.Wt.obs [(o, .arr xs)] k)) →
    ∃ G', RelV G' wd (.ret, []) (.v xs) u ∧ (∀ o, RelO G' wd o .free) ∧ ∀ S, (∀ o, ¬ S o) → Keep S G wd G' wd := by
  intro G wd u h ho
  obtain ⟨b, m, c, c', h1, h2, h3⟩ := RelV.sref h
  obtain ⟨b', n, k1, k2, k3, k4, k5⟩ := frz_elems (by have := ho o; simpa [obs, lk0, orr] using this) hB
  have k0 := k1
  rw [h2] at k1
  injection k1 with k1
  injection k1 with e1 _ _
  injection e1 with e1
  injection e1 with e1 _ _
  subst e1
  exact ⟨_, ⟨[u], ⟨some ⟨b, 0, none⟩, c, by rw [h1], h3, k5⟩, rfl⟩, frz_free, k3⟩
end Go.Wt
namespace Go.Wt
/-! ### Books -/
def payF (b : List Int) (p : Pay) : List Int :=
  if p.sum ≤ b.getD (p.frm - 1).toNat 0 then
    (b.set (p.frm - 1).toNat (b.getD (p.frm - 1).toNat 0 - p.sum)).set (p.to - 1).toNat ((b.set (p.frm - 1).toNat (b.getD (p.frm - 1).toNat 0 - p.sum)).getD (p.to - 1).toNat 0 + p.sum)
  else b
def bookF (c : List Itm) : List Int := c.foldl (fun b x => payF b x.pay) [9, 9, 9]
def Bk (b : List Int) : Prop := ∃ x y z : Int, b = [x, y, z] ∧ 0 ≤ x ∧ 0 ≤ y ∧ 0 ≤ z ∧ x + y + z = 27
theorem Bk.new : Bk [9, 9, 9] := ⟨9, 9, 9, rfl, by decide, by decide, by decide, by decide⟩
theorem pay_bd {p : Pay} (h : payOk p = true) : (1 ≤ p.frm ∧ p.frm ≤ 3) ∧ (1 ≤ p.to ∧ p.to ≤ 3) ∧ p.frm ≠ p.to ∧ 1 ≤ p.sum ∧ p.sum ≤ 9 := by
  simp only [payOk, within, Bool.and_eq_true, decide_eq_true_eq, bne_iff_ne] at h
  exact ⟨h.1.1.1, h.1.1.2, h.1.2, h.2⟩
theorem Bk.pay {b : List Int} {p : Pay} (h : Bk b) (hp : payOk p = true) : Bk (payF b p) := by
  obtain ⟨x, y, z, rfl, hx, hy, hz, hs⟩ := h
  obtain ⟨h1, h2, h3, h4⟩ := pay_bd hp
  obtain ⟨f, t, s⟩ := p
  simp only at h1 h2 h3 h4
  have hf : f = 1 ∨ f = 2 ∨ f = 3 := by omega
  have ht : t = 1 ∨ t = 2 ∨ t = 3 := by omega
  unfold payF
  split
  · rename_i hh
    rcases hf with rfl | rfl | rfl <;> rcases ht with rfl | rfl | rfl <;> first | (exfalso; omega) | (simp at hh ⊢; exact ⟨_, _, _, rfl, by omega, by omega, by omega, by omega⟩)
  · exact ⟨x, y, z, rfl, hx, hy, hz, hs⟩
theorem Bk.at {b : List Int} (h : Bk b) {k : Nat} (hk : k < 3) : ∃ v, b[k]? = some v ∧ b.getD k 0 = v ∧ 0 ≤ v ∧ v ≤ 27 := by
  obtain ⟨x, y, z, rfl, hx, hy, hz, hs⟩ := h
  have : k = 0 ∨ k = 1 ∨ k = 2 := by omega
  rcases this with rfl | rfl | rfl
  · exact ⟨x, rfl, rfl, hx, by omega⟩
  · exact ⟨y, rfl, rfl, hy, by omega⟩
  · exact ⟨z, rfl, rfl, hz, by omega⟩
theorem Bk.len {b : List Int} (h : Bk b) : b.length = 3 := by obtain ⟨x, y, z, rfl, _⟩ := h; rfl
theorem chainFrom_pay : ∀ (c : List Itm) (e : Int), chainFrom e c = true → ∀ x ∈ c, payOk x.pay = true
  | [], _, _, x, hx => by cases hx
  | y :: c, e, h, x, hx => by
    simp only [chainFrom, Bool.and_eq_true] at h
    rcases List.mem_cons.1 hx with rfl | hx
    · exact h.1.1.2
    · exact chainFrom_pay c _ h.2 x hx
theorem chainOk_pay {c : List Itm} (h : chainOk c = true) : ∀ x ∈ c, payOk x.pay = true := by
  simp only [chainOk, Bool.and_eq_true] at h
  exact chainFrom_pay c 0 h.1
theorem fold_bk : ∀ (l : List Itm) {b : List Int}, Bk b → (∀ x ∈ l, payOk x.pay = true) → Bk (l.foldl (fun b x => payF b x.pay) b)
  | [], _, h, _ => h
  | x :: l, _, h, hp => fold_bk l (h.pay (hp x (by simp))) fun y hy => hp y (by simp [hy])
end Go.Wt
namespace Go.Wt
def psum (b : List Int) (k : Nat) : Int := (b.take k).foldl (fun (s v : Int) => s + v) 0
theorem psum_step {b : List Int} {k : Nat} {v : Int} (h : b[k]? = some v) : psum b (k + 1) = psum b k + v := foldl_at (fun (s v : Int) => s + v) 0 h
theorem psum_bd {b : List Int} (h : Bk b) {k : Nat} (hk : k ≤ 3) : 0 ≤ psum b k ∧ psum b k ≤ 27 := by
  obtain ⟨x, y, z, rfl, hx, hy, hz, hs⟩ := h
  have : k = 0 ∨ k = 1 ∨ k = 2 ∨ k = 3 := by omega
  rcases this with rfl | rfl | rfl | rfl <;> simp [psum] <;> omega
theorem psum_all {b : List Int} (h : Bk b) : psum b 3 = 27 := by
  obtain ⟨x, y, z, rfl, hx, hy, hz, hs⟩ := h
  simp [psum]; omega
theorem book_bk {c : List Itm} (h : chainOk c = true) : Bk (bookF c) := fold_bk c Bk.new (chainOk_pay h)
end Go.Wt
