/- Part 4 of the proof: texts one behind the other. -/
import Derived.Test.YtmabpmlcclgecaaM3
import Derived.Below
import Derived.SizedLaws
import Derived.ChangeSlices
/- The reference: draws of plays. -/
set_option linter.unusedVariables false
set_option linter.unusedSimpArgs false
namespace Go.Proofs.Ytmabpmlcclgecaa
open Go Go.Wt
set_option maxHeartbeats 8000000 in
theorem l72Play_ct (r : Rd) (hp : Far 1000 r) : Ct Try.prog 63 [.box 0 (IsLens.whole Rd)] (obs [(0, .cell r)]) (fun r1 h1 => ∃ (bad : Int) (evs : List Evt) (w : Wrld) (r' : Rd), r1 = .tup [.v bad, .v (OList.mk evs true), .v (sW w)] ∧ h1 = obs (ro r' w) ∧ evs.length ≤ 100 ∧ within bad 0 4 = true ∧ FineX w ∧ Far 20000 r') := by
  have hq0 := pk_bd hp (by omega) 5
  have hq0' := hq0.2 (by omega)
  have hf1 : Far 1001 (nx r 1) := hp.nx (by omega) (by omega)
  have hq1 := pk_bd hf1 (by omega) 5
  have hq1' := hq1.2 (by omega)
  have hf2 : Far 1002 (nx (nx r 1) 1) := hf1.nx (by omega) (by omega)
  refine Ct.intro Try.func63 rfl rfl ?_
  all_goals refine awp_seq (awp_region (id := 0) ?_)
  all_goals refine awpOps_cons (op_as rfl (Conv.of rfl) rfl) ?_
  all_goals refine awpOps_cons (op_as rfl (Conv.of rfl) rfl) ?_
  all_goals refine awpOps_cons (op_alloc (o := 5) z61_WrldS rfl rfl) ?_
  all_goals refine awpOps_nil ?_
  all_goals refine awp_seq (awp_region (id := 1) ?_)
  all_goals refine awpOps_cons (op_mv rfl (Conv.of rfl) rfl) ?_
  all_goals refine awpOps_cons (op_callO fb33 (.cons rfl (Conv.of rfl) (.cons rfl (Conv.of rfl) (.nil _))) (pick_ct r 5 (by unfold Far at hp; omega)) (olsk rfl ols0) (oksk (by exact obOk_cell) oks0) (oksk (by exact obOk_cell) oks0) rfl (argOb rfl rfl rfl (argOk' rfl rfl argO0)) (fun o ho => by cases ho) rfl) ?_
  all_goals refine awpOps_cons (op_as rfl (Conv.of rfl) rfl) ?_
  all_goals refine awpOps_nil ?_
  have hb : within (pk r 5) 0 4 = true := by simp [within]; omega
  generalize pk r 5 = bad at hq0 hq0' hb ⊢
  all_goals refine awp_seq (awp_region (id := 2) ?_)
  all_goals refine awpOps_cons (op_mv rfl (Conv.of rfl) rfl) ?_
  refine awpOps_callO [] rfl fb92 (.cons rfl (Conv.of rfl) (.nil _)) (sWorldNew_w bad hb) ols0 oks0 (argOk' rfl rfl argO0) rfl ?_
  rintro r_ h' ⟨rfl, rfl⟩
  refine ⟨so (newW bad), rfl, (fun o ho => by cases ho), fun o ho _ => ?_, oksk obOkNs oks0, fun o ho => ?_, ?_⟩
  · have : o = 1 := by simpa [keys, lk0] using ho
    subst this; rfl
  · have : o = 1 := by simpa using (show o ∈ [1] from ho)
    subst this; rfl
  all_goals refine awpOps_cons (op_mvo rfl rfl rfl rfl) ?_
  all_goals refine awpOps_cons (op_extm rfl rfl rfl rfl) ?_
  all_goals refine awpOps_cons (op_ext rfl rfl rfl) ?_
  all_goals refine awpOps_cons (op_alloc (o := 6) z61_WrldS rfl rfl) ?_
  all_goals refine awpOps_cons (op_stm ty61_WrldS rfl rfl rfl) ?_
  all_goals refine awpOps_cons (op_as rfl (Conv.of rfl) rfl) ?_
  all_goals refine awpOps_nil ?_
  all_goals refine awp_seq (awp_region (id := 3) ?_)
  all_goals refine awpOps_cons (op_bsl sl85 z110 (.nil _) rfl (by decide) rfl) ?_
  all_goals refine awpOps_cons (op_asl rfl rfl rfl rfl) ?_
  all_goals refine awpOps_nil ?_
  all_goals refine awp_seq (awp_seq (awp_region (id := 4) ?_))
  all_goals refine awpOps_cons (op_mv rfl (Conv.of rfl) rfl) ?_
  all_goals refine awpOps_cons (op_callO fb33 (.cons rfl (Conv.of rfl) (.cons rfl (Conv.of rfl) (.nil _))) (pick_ct (nx r 1) 5 (by unfold Far at hf1; omega)) (olsk rfl ols0) (oksk (by exact obOk_cell) oks0) (oksk (by exact obOk_cell) oks0) rfl (argOb rfl rfl rfl (argOk' rfl rfl argO0)) (fun o ho => by cases ho) rfl) ?_
  all_goals refine awpOps_cons (op_as rfl (Conv.of rfl) rfl) ?_
  all_goals refine awpOps_nil ?_
  generalize pk (nx r 1) 5 = n0 at hq1 hq1' ⊢
  generalize nx (nx r 1) 1 = r0 at hf2 ⊢
  refine awp_block ?_
  refine awp_loop' (fun n_ s => ∃ (k : Nat), ∃ (evs : List Evt), ∃ (w : Wrld), ∃ (r1 : Rd), ∃ (hk : n_ + k = n0.toNat), ∃ (hw : FineX w), ∃ (he : evs.length ≤ 10 * k), ∃ (hf : Far (1002 + 3 * (k : Int)) r1), s = mkSt 120 [(0, .box 0 (IsLens.whole Rd)), (4, .box 5 (IsLens.whole WrldS)), (5, .v bad), (6, .box 6 (IsLens.whole WrldS)), (8, .v (OList.mk evs true)), (9, .v (n0 - (k : Int)))] [(0, .cell r1), (1, .arr (Wrld.nodes w |>.map sN)), (5, .cell WrldS.zero), (6, .cell (sW w))]) (n0.toNat) ⟨0, [], newW bad, r0, by omega, newW_ok bad, by simp, by simpa using hf2, rfl⟩ (Le.mk rfl (tlb rfl rfl rfl (tlb rfl rfl rfl (tle rfl (rfl) rfl (tlb rfl rfl rfl (tle rfl (rfl) rfl (tle rfl (by (show AV.v _ = AV.v _; congr 1; omega)) rfl tln)))))) (olk rfl (by exact obOk_cell) (olk rfl (by exact obOkNs) (olk rfl (by exact obOkS0) (olk rfl (by exact obOkS rfl) oln)))) (hS_sub (a := [(0, .cell r)]) rfl)) ?_
  rintro n_ s ⟨k, evs, w, r1, hk, hw, he, hf, rfl⟩
  have hk4 : k ≤ 4 := by omega
  have hep := hw.ep
  all_goals refine awp_seq (awp_seq (awp_region (id := 5) ?_))
  all_goals refine awpOps_cons (op_mv rfl (Conv.of rfl) rfl) ?_
  all_goals refine awpOps_cons (op_gtr rfl rfl rfl) ?_
  all_goals refine awpOps_nil ?_
  refine awp_cond rfl (fun h => ?_) (fun h => ?_)
  · have hlt : (k : Int) < n0 := by have := of_decide_eq_true h; omega
    refine awp_skip ?_
    refine awp_seq (awp_block ?_)
    all_goals refine awp_seq (awp_seq (awp_region (id := 7) ?_))
    all_goals refine awpOps_cons (op_build (.cons f110_0 rfl (Conv.of rfl) (.nil _)) z110 rfl pl110 rfl) ?_
    all_goals refine awpOps_cons (op_fab f61_0_WrldS rfl rfl) ?_
    all_goals refine awpOps_cons (op_ld ty3 rfl rfl rfl) ?_
    all_goals refine awpOps_cons (op_add rfl rfl rfl (by (simp only [sW]; omega))) ?_
    all_goals refine awpOps_cons (op_call fb35 (.cons rfl (Conv.of rfl) (.nil _)) (l3Leader_ct _ (by simp only [sW]; omega)) (argOk rfl rfl argOk0) rfl rfl) ?_
    all_goals refine awpOps_cons (op_mv rfl (Conv.of rfl) rfl) ?_
    all_goals refine awpOps_cons (op_callO fb38 (.cons rfl (Conv.of rfl) (.nil _)) (l71Pay_ct r1 (hf.weak (by omega))) (olsk rfl ols0) (oksk (by exact obOk_cell) oks0) (oksk (by exact obOk_cell) oks0) rfl (argOb rfl rfl rfl argO0) (fun o ho => by cases ho) rfl) ?_
    all_goals refine awpOps_cons (op_build (.cons f110_0 rfl (Conv.of rfl) (.cons f110_1 rfl (Conv.of rfl) (.cons f110_3 rfl (Conv.of rfl) (.nil _)))) z110 rfl pl110 rfl) ?_
    all_goals refine awpOps_cons (op_bsl sl85 z110 (.cons rfl (Conv.of rfl) (.cons rfl (Conv.of rfl) (.nil _))) rfl (by decide) rfl) ?_
    all_goals refine awpOps_cons (op_len sl85 rfl rfl) ?_
    all_goals refine awpOps_cons (op_mv rfl (Conv.of rfl) rfl) ?_
    all_goals refine awpOps_nil ?_
    have hf3 : Far (1005 + 3 * (k : Int)) (nx r1 3) := hf.nx (by omega) (by omega)
    generalize hes : ([{ kind := 1, a := 0, b := 0, pay := Pay.zero, vote := Vote.zero }, { kind := 2, a := leadS ((sW w).epoch + 1), b := 0, pay := payV r1, vote := Vote.zero }] : List Evt) = es
    have hes2 : es.length = 2 := by rw [← hes]; rfl
    generalize nx r1 3 = r2 at hf3 ⊢
    refine nx_seq (awp_to_ex (ι := List Evt × Wrld) (fun i => mkSt 120 [(0, .box 0 (IsLens.whole Rd)), (4, .box 5 (IsLens.whole WrldS)), (5, .v bad), (6, .box 6 (IsLens.whole WrldS)), (8, .v (OList.mk i.1 true)), (9, .v (n0 - (k : Int)))] [(0, .cell r2), (1, .arr (Wrld.nodes i.2 |>.map sN)), (5, .cell WrldS.zero), (6, .cell (sW i.2))]) (fun i => FineX i.2 ∧ i.1.length ≤ 10 * k + 2) ?_ ?_)
    · refine awp_block ?_
      refine awp_loop' (fun n_ s => ∃ (j : Nat), ∃ (evs2 : List Evt), ∃ (w2 : Wrld), ∃ (hj : n_ + j = 2), ∃ (hw2 : FineX w2), ∃ (he2 : evs2.length ≤ 10 * k + j), s = mkSt 120 [(0, .box 0 (IsLens.whole Rd)), (4, .box 5 (IsLens.whole WrldS)), (5, .v bad), (6, .box 6 (IsLens.whole WrldS)), (8, .v (OList.mk evs2 true)), (9, .v (n0 - (k : Int))), (39, .v (OList.mk es true)), (40, .v (2 : Int)), (41, .v (j : Int))] [(0, .cell r2), (1, .arr (Wrld.nodes w2 |>.map sN)), (5, .cell WrldS.zero), (6, .cell (sW w2))]) (2) ⟨0, evs, w, by omega, hw, by omega, rfl⟩ (Le.mk rfl (tlb rfl rfl rfl (tlb rfl rfl rfl (tle rfl (rfl) rfl (tlb rfl rfl rfl (tle rfl (rfl) rfl (tle rfl (rfl) rfl (tle rfl (by (rw [← hes]; rfl)) rfl (tle rfl (rfl) rfl (tle rfl (rfl) rfl tln))))))))) (olk rfl (by exact obOk_cell) (olk rfl (by exact obOkNs) (olk rfl (by exact obOkS0) (olk rfl (by exact obOkS rfl) oln)))) (hS_sub (a := [(0, .cell r)]) rfl)) ?_
      rintro n_ s ⟨j, evs2, w2, hj, hw2, he2, rfl⟩
      all_goals refine awp_seq (awp_region (id := 8) ?_)
      all_goals refine awpOps_cons (op_lss rfl rfl rfl) ?_
      all_goals refine awpOps_nil ?_
      refine awp_seq (awp_cond rfl (fun h2 => ?_) (fun h2 => ?_))
      · have hj2 : j < 2 := by have := of_decide_eq_true h2; omega
        have hx : es[j]? = some (es[j]'(by omega)) := List.getElem?_eq_getElem (by omega)
        generalize hee : es[j]'(by omega) = e at hx
        refine awp_skip ?_
        refine awp_seq (awp_block ?_)
        all_goals refine awp_seq (awp_region (id := 9) ?_)
        all_goals refine awpOps_cons (op_ix sl85 rfl rfl rfl (by omega) hx) ?_
        all_goals refine awpOps_cons (op_ldr ty110 rfl rfl) ?_
        all_goals refine awpOps_cons (op_alloc (o := 7) z110 rfl rfl) ?_
        all_goals refine awpOps_cons (op_st ty110 rfl rfl (Conv.of rfl) rfl) ?_
        all_goals refine awpOps_nil ?_
        all_goals refine awp_seq (awp_region (id := 10) ?_)
        all_goals refine awpOps_cons (op_mvl rfl rfl rfl rfl) ?_
        all_goals refine awpOps_cons (op_ld ty110 rfl rfl rfl) ?_
        all_goals refine awpOps_cons (op_bsl sl85 z110 (.cons rfl (Conv.of rfl) (.nil _)) rfl (by decide) rfl) ?_
        all_goals refine awpOps_cons (op_app sl85 z110 ul85 rfl rfl rfl (by (simp; omega)) (by (simp; omega)) rfl rfl) ?_
        all_goals refine awpOps_cons (op_asl rfl rfl rfl rfl) ?_
        all_goals refine awpOps_nil ?_
        all_goals refine awp_region (id := 11) ?_
        all_goals refine awpOps_cons (op_ldm ty61_WrldS rfl rfl rfl) ?_
        all_goals refine awpOps_cons (op_ld ty110 rfl rfl rfl) ?_
        all_goals refine awpOps_cons (op_callM (s := 49) (pre := []) fb93 (.nil _) rfl (.cons rfl (Conv.of rfl) (.nil _)) (l21Do_ct w2 _ hw2) (olsk rfl ols0) (oksk (by exact obOkNs) oks0) (oksk (by exact obOkNs) oks0) rfl argO0 (argOk' rfl rfl argO0) (inOne rfl) (inOne rfl) rfl) ?_
        all_goals refine awpOps_cons (op_stm ty61_WrldS rfl rfl rfl) ?_
        all_goals refine awpOps_nil ?_
        all_goals refine awp_region (id := 12) ?_
        all_goals refine awpOps_cons (op_add rfl rfl rfl (by omega)) ?_
        all_goals refine awpOps_cons (op_mv rfl (Conv.of rfl) rfl) ?_
        all_goals refine awpOps_nil ?_
        repeat first | refine nx_seq ?_ | refine nx_block ?_
        exact ⟨n_ - 1, _, by omega, ⟨j + 1, evs2 ++ [e], doF w2 e, by omega, doF_ok _ hw2, by simp; omega, rfl⟩, Le.mk rfl (tlb rfl rfl rfl (tlb rfl rfl rfl (tle rfl (rfl) rfl (tlb rfl rfl rfl (tle rfl (rfl) rfl (tle rfl (rfl) rfl (tle rfl (by rfl) rfl (tle rfl (rfl) rfl (tle rfl (rfl) rfl tln))))))))) (olk rfl (by exact obOk_cell) (olk rfl (by exact obOkNs) (olk rfl (by exact obOkS0) (olk rfl (by exact obOkS rfl) oln)))) (hS_sub (a := [(0, .cell r)]) rfl)⟩
      · refine awp_exit ?_
        repeat refine ex_seq ?_
        refine ex_block ?_
        exact nx_seq ⟨(evs2, w2), ⟨hw2, by simp only; omega⟩, Le.mk rfl (tlb rfl rfl rfl (tlb rfl rfl rfl (tle rfl (rfl) rfl (tlb rfl rfl rfl (tle rfl (rfl) rfl (tle rfl (rfl) rfl tln)))))) (olk rfl (by exact obOk_cell) (olk rfl (by exact obOkNs) (olk rfl (by exact obOkS0) (olk rfl (by exact obOkS rfl) oln)))) (hS_sub (a := [(0, .cell r)]) rfl)⟩
    rintro ⟨evs3, w3⟩ ⟨hw3, he3⟩
    simp only at hw3 he3 ⊢
    refine awp_seq_ex (ι := List Evt × Wrld) (fun i => mkSt 120 [(0, .box 0 (IsLens.whole Rd)), (4, .box 5 (IsLens.whole WrldS)), (5, .v bad), (6, .box 6 (IsLens.whole WrldS)), (8, .v (OList.mk i.1 true)), (9, .v (n0 - (k : Int)))] [(0, .cell r2), (1, .arr (Wrld.nodes i.2 |>.map sN)), (5, .cell WrldS.zero), (6, .cell (sW i.2))]) (fun i => FineX i.2 ∧ i.1.length ≤ 10 * k + 6) ?_ ?_
    · all_goals refine awp_seq (awp_region (id := 13) ?_)
      all_goals refine awpOps_cons (op_as rfl (Conv.of rfl) rfl) ?_
      all_goals refine awpOps_nil ?_
      refine awp_block ?_
      refine awp_loop' (fun n_ s => ∃ (j : Nat), ∃ (evs4 : List Evt), ∃ (w4 : Wrld), ∃ (hj : n_ + j = 4), ∃ (hw4 : FineX w4), ∃ (he4 : evs4.length ≤ 10 * k + 2 + j), s = mkSt 120 [(0, .box 0 (IsLens.whole Rd)), (4, .box 5 (IsLens.whole WrldS)), (5, .v bad), (6, .box 6 (IsLens.whole WrldS)), (8, .v (OList.mk evs4 true)), (9, .v (n0 - (k : Int))), (12, .v ((j : Int) + 1))] [(0, .cell r2), (1, .arr (Wrld.nodes w4 |>.map sN)), (5, .cell WrldS.zero), (6, .cell (sW w4))]) (4) ⟨0, evs3, w3, by omega, hw3, by omega, rfl⟩ (Le.mk rfl (tlb rfl rfl rfl (tlb rfl rfl rfl (tle rfl (rfl) rfl (tlb rfl rfl rfl (tle rfl (rfl) rfl (tle rfl (rfl) rfl (tle rfl (by rfl) rfl tln))))))) (olk rfl (by exact obOk_cell) (olk rfl (by exact obOkNs) (olk rfl (by exact obOkS0) (olk rfl (by exact obOkS rfl) oln)))) (hS_sub (a := [(0, .cell r)]) rfl)) ?_
      rintro n_ s ⟨j, evs4, w4, hj, hw4, he4, rfl⟩
      have hll := hw4.ll
      all_goals refine awp_seq (awp_seq (awp_region (id := 14) ?_))
      all_goals refine awpOps_cons (op_mv rfl (Conv.of rfl) rfl) ?_
      all_goals refine awpOps_cons (op_leq rfl rfl rfl) ?_
      all_goals refine awpOps_cons (op_mv rfl (Conv.of rfl) rfl) ?_
      all_goals refine g_split (t := 55) rfl (fun h => ?_) (fun h => ?_)
      all_goals first | refine awpOps_cons (g_off rfl rfl rfl rfl rfl) ?_ | refine awpOps_cons (g_on rfl rfl rfl (op_fab f61_2_WrldS rfl rfl)) ?_
      all_goals first | refine awpOps_cons (g_off rfl rfl rfl rfl rfl) ?_ | refine awpOps_cons (g_on rfl rfl rfl (op_ldl ty23_OListVote rfl rfl rfl)) ?_
      all_goals first | refine awpOps_cons (g_off rfl rfl rfl rfl rfl) ?_ | refine awpOps_cons (g_on rfl rfl rfl (op_len sl23 rfl rfl)) ?_
      all_goals first | refine awpOps_cons (g_off rfl rfl rfl rfl rfl) ?_ | refine awpOps_cons (g_on rfl rfl rfl (op_gtr rfl rfl rfl)) ?_
      all_goals refine awpOps_cons (op_pick rfl rfl rfl rfl) ?_
      all_goals refine awpOps_nil ?_
      · refine awp_cond rfl (fun h2 => ?_) (fun h2 => ?_)
        · have hj4 : j < 4 := by have := of_decide_eq_true h; omega
          refine awp_skip ?_
          refine awp_seq (awp_block ?_)
          all_goals refine awp_seq (awp_region (id := 16) ?_)
          all_goals refine awpOps_cons (op_fab f61_2_WrldS rfl rfl) ?_
          all_goals refine awpOps_cons (op_ldl ty23_OListVote rfl rfl rfl) ?_
          all_goals refine awpOps_cons (op_len sl23 rfl rfl) ?_
          all_goals refine awpOps_cons (op_sub rfl rfl rfl (by (simp only [sW]; omega))) ?_
          all_goals refine awpOps_cons (op_mv rfl (Conv.of rfl) rfl) ?_
          all_goals refine awpOps_cons (op_build (.cons f110_0 rfl (Conv.of rfl) (.cons f110_1 rfl (Conv.of rfl) (.cons f110_2 rfl (Conv.of rfl) (.nil _)))) z110 rfl pl110 rfl) ?_
          all_goals refine awpOps_cons (op_alloc (o := 8) z110 rfl rfl) ?_
          all_goals refine awpOps_cons (op_st ty110 rfl rfl (Conv.of rfl) rfl) ?_
          all_goals refine awpOps_nil ?_
          all_goals refine awp_seq (awp_region (id := 17) ?_)
          all_goals refine awpOps_cons (op_mvl rfl rfl rfl rfl) ?_
          all_goals refine awpOps_cons (op_ld ty110 rfl rfl rfl) ?_
          all_goals refine awpOps_cons (op_bsl sl85 z110 (.cons rfl (Conv.of rfl) (.nil _)) rfl (by decide) rfl) ?_
          all_goals refine awpOps_cons (op_app sl85 z110 ul85 rfl rfl rfl (by (simp; omega)) (by (simp; omega)) rfl rfl) ?_
          all_goals refine awpOps_cons (op_asl rfl rfl rfl rfl) ?_
          all_goals refine awpOps_nil ?_
          all_goals refine awp_region (id := 18) ?_
          all_goals refine awpOps_cons (op_ldm ty61_WrldS rfl rfl rfl) ?_
          all_goals refine awpOps_cons (op_ld ty110 rfl rfl rfl) ?_
          all_goals refine awpOps_cons (op_callM (s := 73) (pre := []) fb93 (.nil _) rfl (.cons rfl (Conv.of rfl) (.nil _)) (l21Do_ct w4 _ hw4) (olsk rfl ols0) (oksk (by exact obOkNs) oks0) (oksk (by exact obOkNs) oks0) rfl argO0 (argOk' rfl rfl argO0) (inOne rfl) (inOne rfl) rfl) ?_
          all_goals refine awpOps_cons (op_stm ty61_WrldS rfl rfl rfl) ?_
          all_goals refine awpOps_nil ?_
          all_goals refine awp_region (id := 15) ?_
          all_goals refine awpOps_cons (op_mv rfl (Conv.of rfl) rfl) ?_
          all_goals refine awpOps_cons (op_add rfl rfl rfl (by omega)) ?_
          all_goals refine awpOps_cons (op_as rfl (Conv.of rfl) rfl) ?_
          all_goals refine awpOps_nil ?_
          repeat first | refine nx_seq ?_ | refine nx_block ?_
          exact ⟨n_ - 1, _, by omega, ⟨j + 1, _, _, by omega, doF_ok _ hw4, by simp; omega, rfl⟩, Le.mk rfl (tlb rfl rfl rfl (tlb rfl rfl rfl (tle rfl (rfl) rfl (tlb rfl rfl rfl (tle rfl (rfl) rfl (tle rfl (rfl) rfl (tle rfl (by rfl) rfl tln))))))) (olk rfl (by exact obOk_cell) (olk rfl (by exact obOkNs) (olk rfl (by exact obOkS0) (olk rfl (by exact obOkS rfl) oln)))) (hS_sub (a := [(0, .cell r)]) rfl)⟩
        · refine awp_exit ?_
          repeat refine ex_seq ?_
          refine ex_block ?_
          exact nx_seq ⟨(evs4, w4), ⟨hw4, by simp only; omega⟩, Le.mk rfl (tlb rfl rfl rfl (tlb rfl rfl rfl (tle rfl (rfl) rfl (tlb rfl rfl rfl (tle rfl (rfl) rfl (tle rfl (rfl) rfl tln)))))) (olk rfl (by exact obOk_cell) (olk rfl (by exact obOkNs) (olk rfl (by exact obOkS0) (olk rfl (by exact obOkS rfl) oln)))) (hS_sub (a := [(0, .cell r)]) rfl)⟩
      · refine awp_cond rfl (fun h2 => absurd h2 (by decide)) (fun h2 => ?_)
        refine awp_exit ?_
        repeat refine ex_seq ?_
        refine ex_block ?_
        exact nx_seq ⟨(evs4, w4), ⟨hw4, by simp only; omega⟩, Le.mk rfl (tlb rfl rfl rfl (tlb rfl rfl rfl (tle rfl (rfl) rfl (tlb rfl rfl rfl (tle rfl (rfl) rfl (tle rfl (rfl) rfl tln)))))) (olk rfl (by exact obOk_cell) (olk rfl (by exact obOkNs) (olk rfl (by exact obOkS0) (olk rfl (by exact obOkS rfl) oln)))) (hS_sub (a := [(0, .cell r)]) rfl)⟩
    rintro ⟨evs5, w5⟩ ⟨hw5, he5⟩
    simp only at hw5 he5 ⊢
    refine awp_toB_ex (ι := List Evt × Wrld) (fun i => mkSt 120 [(0, .box 0 (IsLens.whole Rd)), (4, .box 5 (IsLens.whole WrldS)), (5, .v bad), (6, .box 6 (IsLens.whole WrldS)), (8, .v (OList.mk i.1 true)), (9, .v (n0 - (k : Int)))] [(0, .cell r2), (1, .arr (Wrld.nodes i.2 |>.map sN)), (5, .cell WrldS.zero), (6, .cell (sW i.2))]) (fun i => FineX i.2 ∧ i.1.length ≤ 10 * k + 10) ?_ ?_
    · all_goals refine awp_seq (awp_region (id := 19) ?_)
      all_goals refine awpOps_cons (op_as rfl (Conv.of rfl) rfl) ?_
      all_goals refine awpOps_nil ?_
      refine awp_block ?_
      refine awp_loop' (fun n_ s => ∃ (j : Nat), ∃ (evs6 : List Evt), ∃ (w6 : Wrld), ∃ (hj : n_ + j = 4), ∃ (hw6 : FineX w6), ∃ (he6 : evs6.length ≤ 10 * k + 6 + j), s = mkSt 120 [(0, .box 0 (IsLens.whole Rd)), (4, .box 5 (IsLens.whole WrldS)), (5, .v bad), (6, .box 6 (IsLens.whole WrldS)), (8, .v (OList.mk evs6 true)), (9, .v (n0 - (k : Int))), (14, .v ((j : Int) + 1))] [(0, .cell r2), (1, .arr (Wrld.nodes w6 |>.map sN)), (5, .cell WrldS.zero), (6, .cell (sW w6))]) (4) ⟨0, evs5, w5, by omega, hw5, by omega, rfl⟩ (Le.mk rfl (tlb rfl rfl rfl (tlb rfl rfl rfl (tle rfl (rfl) rfl (tlb rfl rfl rfl (tle rfl (rfl) rfl (tle rfl (rfl) rfl (tle rfl (by rfl) rfl tln))))))) (olk rfl (by exact obOk_cell) (olk rfl (by exact obOkNs) (olk rfl (by exact obOkS0) (olk rfl (by exact obOkS rfl) oln)))) (hS_sub (a := [(0, .cell r)]) rfl)) ?_
      rintro n_ s ⟨j, evs6, w6, hj, hw6, he6, rfl⟩
      have hll := hw6.ll
      all_goals refine awp_seq (awp_seq (awp_region (id := 20) ?_))
      all_goals refine awpOps_cons (op_mv rfl (Conv.of rfl) rfl) ?_
      all_goals refine awpOps_cons (op_leq rfl rfl rfl) ?_
      all_goals refine awpOps_cons (op_mv rfl (Conv.of rfl) rfl) ?_
      all_goals refine g_split (t := 78) rfl (fun h => ?_) (fun h => ?_)
      all_goals first | refine awpOps_cons (g_off rfl rfl rfl rfl rfl) ?_ | refine awpOps_cons (g_on rfl rfl rfl (op_fab f61_2_WrldS rfl rfl)) ?_
      all_goals first | refine awpOps_cons (g_off rfl rfl rfl rfl rfl) ?_ | refine awpOps_cons (g_on rfl rfl rfl (op_ldl ty23_OListVote rfl rfl rfl)) ?_
      all_goals first | refine awpOps_cons (g_off rfl rfl rfl rfl rfl) ?_ | refine awpOps_cons (g_on rfl rfl rfl (op_len sl23 rfl rfl)) ?_
      all_goals first | refine awpOps_cons (g_off rfl rfl rfl rfl rfl) ?_ | refine awpOps_cons (g_on rfl rfl rfl (op_gtr rfl rfl rfl)) ?_
      all_goals refine awpOps_cons (op_pick rfl rfl rfl rfl) ?_
      all_goals refine awpOps_nil ?_
      · refine awp_cond rfl (fun h2 => ?_) (fun h2 => ?_)
        · have hj4 : j < 4 := by have := of_decide_eq_true h; omega
          refine awp_skip ?_
          refine awp_seq (awp_block ?_)
          all_goals refine awp_seq (awp_region (id := 22) ?_)
          all_goals refine awpOps_cons (op_fab f61_2_WrldS rfl rfl) ?_
          all_goals refine awpOps_cons (op_ldl ty23_OListVote rfl rfl rfl) ?_
          all_goals refine awpOps_cons (op_len sl23 rfl rfl) ?_
          all_goals refine awpOps_cons (op_sub rfl rfl rfl (by (simp only [sW]; omega))) ?_
          all_goals refine awpOps_cons (op_mv rfl (Conv.of rfl) rfl) ?_
          all_goals refine awpOps_cons (op_build (.cons f110_0 rfl (Conv.of rfl) (.cons f110_1 rfl (Conv.of rfl) (.cons f110_2 rfl (Conv.of rfl) (.nil _)))) z110 rfl pl110 rfl) ?_
          all_goals refine awpOps_cons (op_alloc (o := 9) z110 rfl rfl) ?_
          all_goals refine awpOps_cons (op_st ty110 rfl rfl (Conv.of rfl) rfl) ?_
          all_goals refine awpOps_nil ?_
          all_goals refine awp_seq (awp_region (id := 23) ?_)
          all_goals refine awpOps_cons (op_mvl rfl rfl rfl rfl) ?_
          all_goals refine awpOps_cons (op_ld ty110 rfl rfl rfl) ?_
          all_goals refine awpOps_cons (op_bsl sl85 z110 (.cons rfl (Conv.of rfl) (.nil _)) rfl (by decide) rfl) ?_
          all_goals refine awpOps_cons (op_app sl85 z110 ul85 rfl rfl rfl (by (simp; omega)) (by (simp; omega)) rfl rfl) ?_
          all_goals refine awpOps_cons (op_asl rfl rfl rfl rfl) ?_
          all_goals refine awpOps_nil ?_
          all_goals refine awp_region (id := 24) ?_
          all_goals refine awpOps_cons (op_ldm ty61_WrldS rfl rfl rfl) ?_
          all_goals refine awpOps_cons (op_ld ty110 rfl rfl rfl) ?_
          all_goals refine awpOps_cons (op_callM (s := 96) (pre := []) fb93 (.nil _) rfl (.cons rfl (Conv.of rfl) (.nil _)) (l21Do_ct w6 _ hw6) (olsk rfl ols0) (oksk (by exact obOkNs) oks0) (oksk (by exact obOkNs) oks0) rfl argO0 (argOk' rfl rfl argO0) (inOne rfl) (inOne rfl) rfl) ?_
          all_goals refine awpOps_cons (op_stm ty61_WrldS rfl rfl rfl) ?_
          all_goals refine awpOps_nil ?_
          all_goals refine awp_region (id := 21) ?_
          all_goals refine awpOps_cons (op_mv rfl (Conv.of rfl) rfl) ?_
          all_goals refine awpOps_cons (op_add rfl rfl rfl (by omega)) ?_
          all_goals refine awpOps_cons (op_as rfl (Conv.of rfl) rfl) ?_
          all_goals refine awpOps_nil ?_
          repeat first | refine nx_seq ?_ | refine nx_block ?_
          exact ⟨n_ - 1, _, by omega, ⟨j + 1, _, _, by omega, doF_ok _ hw6, by simp; omega, rfl⟩, Le.mk rfl (tlb rfl rfl rfl (tlb rfl rfl rfl (tle rfl (rfl) rfl (tlb rfl rfl rfl (tle rfl (rfl) rfl (tle rfl (rfl) rfl (tle rfl (by rfl) rfl tln))))))) (olk rfl (by exact obOk_cell) (olk rfl (by exact obOkNs) (olk rfl (by exact obOkS0) (olk rfl (by exact obOkS rfl) oln)))) (hS_sub (a := [(0, .cell r)]) rfl)⟩
        · refine awp_exit ?_
          repeat refine ex_seq ?_
          refine ex_block ?_
          exact nx_block (nx_seq ⟨(evs6, w6), ⟨hw6, by simp only; omega⟩, Le.mk rfl (tlb rfl rfl rfl (tlb rfl rfl rfl (tle rfl (rfl) rfl (tlb rfl rfl rfl (tle rfl (rfl) rfl (tle rfl (rfl) rfl tln)))))) (olk rfl (by exact obOk_cell) (olk rfl (by exact obOkNs) (olk rfl (by exact obOkS0) (olk rfl (by exact obOkS rfl) oln)))) (hS_sub (a := [(0, .cell r)]) rfl)⟩)
      · refine awp_cond rfl (fun h2 => absurd h2 (by decide)) (fun h2 => ?_)
        refine awp_exit ?_
        repeat refine ex_seq ?_
        refine ex_block ?_
        exact nx_block (nx_seq ⟨(evs6, w6), ⟨hw6, by simp only; omega⟩, Le.mk rfl (tlb rfl rfl rfl (tlb rfl rfl rfl (tle rfl (rfl) rfl (tlb rfl rfl rfl (tle rfl (rfl) rfl (tle rfl (rfl) rfl tln)))))) (olk rfl (by exact obOk_cell) (olk rfl (by exact obOkNs) (olk rfl (by exact obOkS0) (olk rfl (by exact obOkS rfl) oln)))) (hS_sub (a := [(0, .cell r)]) rfl)⟩)
    rintro ⟨evs7, w7⟩ ⟨hw7, he7⟩
    simp only at hw7 he7 ⊢
    all_goals refine awp_region (id := 6) ?_
    all_goals refine awpOps_cons (op_mv rfl (Conv.of rfl) rfl) ?_
    all_goals refine awpOps_cons (op_sub rfl rfl rfl (by omega)) ?_
    all_goals refine awpOps_cons (op_as rfl (Conv.of rfl) rfl) ?_
    all_goals refine awpOps_nil ?_
    repeat first | refine nx_seq ?_ | refine nx_block ?_
    exact ⟨n_ - 1, _, by omega, ⟨k + 1, evs7, w7, r2, by omega, hw7, by omega, hf3.weak (by omega), rfl⟩, Le.mk rfl (tlb rfl rfl rfl (tlb rfl rfl rfl (tle rfl (rfl) rfl (tlb rfl rfl rfl (tle rfl (rfl) rfl (tle rfl (by (show AV.v _ = AV.v _; congr 1; omega)) rfl tln)))))) (olk rfl (by exact obOk_cell) (olk rfl (by exact obOkNs) (olk rfl (by exact obOkS0) (olk rfl (by exact obOkS rfl) oln)))) (hS_sub (a := [(0, .cell r)]) rfl)⟩
  · refine awp_exit ?_
    repeat refine ex_seq ?_
    refine ex_block ?_
    have hff : Far 2000 r1 := hf.weak (by omega)
    clear hf hk h hq1 hq1' hq0 hq0' hf1 hf2 hp
    have he40 : evs.length ≤ 40 := by omega
    clear he hk4
    refine awp_seq_ex (ι := List Evt × Wrld × Rd) (fun i => mkSt 120 [(0, .box 0 (IsLens.whole Rd)), (4, .box 5 (IsLens.whole WrldS)), (5, .v bad), (6, .box 6 (IsLens.whole WrldS)), (8, .v (OList.mk i.1 true))] [(0, .cell i.2.2), (1, .arr (Wrld.nodes i.2.1 |>.map sN)), (5, .cell WrldS.zero), (6, .cell (sW i.2.1))]) (fun i => FineX i.2.1 ∧ i.1.length ≤ 100 ∧ Far 20000 i.2.2) ?_ ?_
    · refine awp_block ?_
      refine awp_loop' (fun n_ s => ∃ (evs2 : List Evt), ∃ (w2 : Wrld), ∃ (r2 : Rd), ∃ (hj : n_ + evs2.length = 200), ∃ (hw2 : FineX w2), ∃ (he2 : evs2.length ≤ 100), ∃ (hf2 : Far (2000 + 130 * (evs2.length : Int)) r2), s = mkSt 120 [(0, .box 0 (IsLens.whole Rd)), (4, .box 5 (IsLens.whole WrldS)), (5, .v bad), (6, .box 6 (IsLens.whole WrldS)), (8, .v (OList.mk evs2 true))] [(0, .cell r2), (1, .arr (Wrld.nodes w2 |>.map sN)), (5, .cell WrldS.zero), (6, .cell (sW w2))]) (200 - evs.length) ⟨evs, w, r1, by omega, hw, by omega, hff.weak (by omega), rfl⟩ (Le.mk rfl (tlb rfl rfl rfl (tlb rfl rfl rfl (tle rfl (rfl) rfl (tlb rfl rfl rfl (tle rfl (rfl) rfl tln))))) (olk rfl (by exact obOk_cell) (olk rfl (by exact obOkNs) (olk rfl (by exact obOkS0) (olk rfl (by exact obOkS rfl) oln)))) (hS_sub (a := [(0, .cell r)]) rfl)) ?_
      rintro n_ s ⟨evs2, w2, r2, hj, hw2, he2, hf2, rfl⟩
      have hf3 : Far (2001 + 130 * (evs2.length : Int)) (nx r2 1) := hf2.nx (by omega) (by omega)
      all_goals refine awp_seq (awp_seq (awp_region (id := 25) ?_))
      all_goals refine awpOps_cons (op_mv rfl Conv.ol rfl) ?_
      all_goals refine awpOps_cons (op_len sl85 rfl rfl) ?_
      all_goals refine awpOps_cons (op_lss rfl rfl rfl) ?_
      all_goals refine awpOps_cons (op_mv rfl (Conv.of rfl) rfl) ?_
      all_goals refine g_split (t := 102) rfl (fun h => ?_) (fun h => ?_)
      all_goals first | refine awpOps_cons (g_off rfl rfl rfl rfl rfl) ?_ | refine awpOps_cons (g_on rfl rfl rfl (op_mv rfl (Conv.of rfl) rfl)) ?_
      all_goals first | refine awpOps_cons (g_off rfl rfl rfl rfl rfl) ?_ | refine awpOps_cons (g_on rfl rfl rfl (op_callO fb33 (.cons rfl (Conv.of rfl) (.cons rfl (Conv.of rfl) (.nil _))) (pick_ct r2 40 (by unfold Far at hf2; omega)) (olsk rfl ols0) (oksk (by exact obOk_cell) oks0) (oksk (by exact obOk_cell) oks0) rfl (argOb rfl rfl rfl (argOk' rfl rfl argO0)) (fun o ho => by cases ho) rfl)) ?_
      all_goals first | refine awpOps_cons (g_off rfl rfl rfl rfl rfl) ?_ | refine awpOps_cons (g_on rfl rfl rfl (op_gtr rfl rfl rfl)) ?_
      all_goals refine awpOps_cons (op_pick rfl rfl rfl rfl) ?_
      all_goals refine awpOps_nil ?_
      · have h69 : evs2.length < 69 := by have := of_decide_eq_true h; omega
        refine awp_cond rfl (fun h2 => ?_) (fun h2 => ?_)
        · refine awp_skip ?_
          refine awp_block ?_
          all_goals refine awp_seq (awp_region (id := 26) ?_)
          all_goals refine awpOps_cons (op_mv rfl (Conv.of rfl) rfl) ?_
          all_goals refine awpOps_cons (op_ldd ty61_WrldS rfl rfl rfl) ?_
          refine awpOps_callE (ι := Evt × Rd) (ro (nx r2 1) w2) (fun i => .v i.1) (fun i => ro i.2 w2) (fun i => (nx r2 1).p ≤ i.2.p ∧ i.2.p ≤ (nx r2 1).p + 120) rfl fb94 (.cons rfl (Conv.of rfl) (.cons rfl (Conv.of rfl) (.nil _))) (l72Event_ct (nx r2 1) w2 hw2 (hf3.weak (by omega))) (fun r h' ⟨v, r', e1, e2, e3, e4⟩ => ⟨(v, r'), e1, e2, e3, e4⟩) (olsk rfl (olsk rfl ols0)) (oksk obOk_cell (oksk obOkNs oks0)) (argOb rfl rfl rfl (argOb rfl rfl rfl argO0)) rfl (fun i => rfl) (fun i => oksk obOk_cell (oksk obOkNs oks0)) (fun i o ho => by cases ho) ?_
          rintro ⟨e, r3⟩ ⟨q1, q2⟩
          simp only at q1 q2 ⊢
          have hf4 : Far (2130 + 130 * (evs2.length : Int)) r3 := by unfold Far at hf3 ⊢; omega
          all_goals refine awpOps_cons (op_alloc (o := 10) z110 rfl rfl) ?_
          all_goals refine awpOps_cons (op_st ty110 rfl rfl (Conv.of rfl) rfl) ?_
          all_goals refine awpOps_nil ?_
          all_goals refine awp_seq (awp_region (id := 27) ?_)
          all_goals refine awpOps_cons (op_mvl rfl rfl rfl rfl) ?_
          all_goals refine awpOps_cons (op_ld ty110 rfl rfl rfl) ?_
          all_goals refine awpOps_cons (op_bsl sl85 z110 (.cons rfl (Conv.of rfl) (.nil _)) rfl (by decide) rfl) ?_
          all_goals refine awpOps_cons (op_app sl85 z110 ul85 rfl rfl rfl (by (simp; omega)) (by (simp; omega)) rfl rfl) ?_
          all_goals refine awpOps_cons (op_asl rfl rfl rfl rfl) ?_
          all_goals refine awpOps_nil ?_
          all_goals refine awp_region (id := 28) ?_
          all_goals refine awpOps_cons (op_ldm ty61_WrldS rfl rfl rfl) ?_
          all_goals refine awpOps_cons (op_ld ty110 rfl rfl rfl) ?_
          all_goals refine awpOps_cons (op_callM (s := 114) (pre := []) fb93 (.nil _) rfl (.cons rfl (Conv.of rfl) (.nil _)) (l21Do_ct w2 _ hw2) (olsk rfl ols0) (oksk (by exact obOkNs) oks0) (oksk (by exact obOkNs) oks0) rfl argO0 (argOk' rfl rfl argO0) (inOne rfl) (inOne rfl) rfl) ?_
          all_goals refine awpOps_cons (op_stm ty61_WrldS rfl rfl rfl) ?_
          all_goals refine awpOps_nil ?_
          repeat first | refine nx_seq ?_ | refine nx_block ?_
          exact ⟨n_ - 1, _, by omega, ⟨evs2 ++ [e], doF w2 e, r3, by simp; omega, doF_ok _ hw2, by simp; omega, hf4.weak (by simp; omega), rfl⟩, Le.mk rfl (tlb rfl rfl rfl (tlb rfl rfl rfl (tle rfl (rfl) rfl (tlb rfl rfl rfl (tle rfl (rfl) rfl tln))))) (olk rfl (by exact obOk_cell) (olk rfl (by exact obOkNs) (olk rfl (by exact obOkS0) (olk rfl (by exact obOkS rfl) oln)))) (hS_sub (a := [(0, .cell r)]) rfl)⟩
        · refine awp_exit ?_
          repeat refine ex_seq ?_
          refine ex_block ?_
          exact nx_seq ⟨(evs2, w2, nx r2 1), ⟨hw2, by simp only; omega, by simp only; exact Far.weak hf3 (by omega)⟩, Le.mk rfl (tlb rfl rfl rfl (tlb rfl rfl rfl (tle rfl (rfl) rfl (tlb rfl rfl rfl (tle rfl (rfl) rfl tln))))) (olk rfl (by exact obOk_cell) (olk rfl (by exact obOkNs) (olk rfl (by exact obOkS0) (olk rfl (by exact obOkS rfl) oln)))) (hS_sub (a := [(0, .cell r)]) rfl)⟩
      · refine awp_cond rfl (fun h2 => absurd h2 (by decide)) (fun h2 => ?_)
        refine awp_exit ?_
        repeat refine ex_seq ?_
        refine ex_block ?_
        exact nx_seq ⟨(evs2, w2, r2), ⟨hw2, by simp only; omega, by simp only; exact Far.weak hf2 (by omega)⟩, Le.mk rfl (tlb rfl rfl rfl (tlb rfl rfl rfl (tle rfl (rfl) rfl (tlb rfl rfl rfl (tle rfl (rfl) rfl tln))))) (olk rfl (by exact obOk_cell) (olk rfl (by exact obOkNs) (olk rfl (by exact obOkS0) (olk rfl (by exact obOkS rfl) oln)))) (hS_sub (a := [(0, .cell r)]) rfl)⟩
    · rintro ⟨evs3, w3, r3⟩ ⟨hw3, he3, hf3⟩
      simp only at hw3 he3 hf3 ⊢
      all_goals refine awp_seq (dr_start (id := 29) ?_)
      all_goals refine dr_cons (op_mv rfl (Conv.of rfl) rfl) ?_
      all_goals refine dr_cons (op_mvl rfl rfl rfl rfl) ?_
      all_goals refine dr_cons (op_ldm ty61_WrldS rfl rfl rfl) ?_
      all_goals refine dr_cons (op_as rfl (Conv.of rfl) rfl) ?_
      all_goals refine dr_cons (op_asl rfl rfl rfl rfl) ?_
      all_goals refine dr_cons (op_stm ty61_WrldS rfl rfl rfl) ?_
      all_goals refine dr_nil mixed rfl ?_
      refine awp_ret ?_
      repeat first | refine rt_seq ?_ | refine rt_block ?_
      exact ⟨_, _, resNM (ol := ro r3 w3) (.keep (.v rfl (Conv.of rfl)) (.tmp rfl (.cell ty61_WrldS rfl rfl (.nil _)))) rfl (inOne rfl) (olk rfl obOk_cell (olk rfl obOkNs oln)) (hS_sub rfl), bad, evs3, w3, r3, rfl, rfl, he3, hb, hw3, hf3⟩
end Go.Proofs.Ytmabpmlcclgecaa

/- The reference: a drawn play. -/
set_option linter.unusedVariables false
set_option linter.unusedSimpArgs false
namespace Go.Proofs.Ytmabpmlcclgecaa
open Go Go.Wt
end Go.Proofs.Ytmabpmlcclgecaa

/- Rows that are objects: another number; written no more. -/
set_option linter.unusedVariables false
set_option linter.unusedSimpArgs false
namespace Go.Wt
open Go
variable {P : Program} {S : Nat → Prop}
theorem lk0_mem {β : Type 1} {t : Nat} {x : β} : ∀ {l : List (Nat × β)}, lk0 l t = some x → (t, x) ∈ l
  | [], h => by simp [lk0] at h
  | (k, y) :: r, h => by
    simp only [lk0] at h
    by_cases e : t = k
    · rw [if_pos e] at h; injection h with h; subst h; subst e; simp
    · rw [if_neg e] at h; exact List.mem_cons_of_mem _ (lk0_mem h)
theorem lk0_hit {β : Type 1} {t : Nat} {x : β} {l : List (Nat × β)} : lk0 ((t, x) :: l) t = some x := by simp [lk0]
theorem lk0_miss {β : Type 1} {t k : Nat} {x : β} {l : List (Nat × β)} (h : t ≠ k) : lk0 ((k, x) :: l) t = lk0 l t := by simp [lk0, h]
theorem Le.trans {a b c : St} (h : Le S a b) (k : Le S b c) : Le S a c := fun G w x hr => by
  obtain ⟨G1, h1, h2⟩ := h G w x hr
  obtain ⟨G2, k1, k2⟩ := k G1 w x h1
  exact ⟨G2, k1, h2.trans k2⟩
/-- What the objects of a list name. -/
def ObL (p : Nat → Bool) : List (Nat × Obj) → Prop
  | [] => True
  | (_, x) :: r => obOk p x ∧ ObL p r
theorem ObL.get {p : Nat → Bool} : ∀ {l : List (Nat × Obj)}, ObL p l → ∀ k x, lk0 l k = some x → obOk p x
  | [], _, k, x, h => by simp [lk0] at h
  | (j, y) :: r, h, k, x, hk => by
    simp only [lk0] at hk
    by_cases e : k = j
    · rw [if_pos e] at hk; injection hk with hk; subst hk; exact h.1
    · rw [if_neg e] at hk; exact ObL.get h.2 k x hk
theorem obl0 {p : Nat → Bool} : ObL p [] := trivial
theorem oblk {p : Nat → Bool} {k : Nat} {x : Obj} {r : List (Nat × Obj)} (h : obOk p x) (hr : ObL p r) : ObL p ((k, x) :: r) := ⟨h, hr⟩
theorem RelO.presP {G w G' w' o x} {p : Nat → Bool} (hs : Sh G w G' w') (hm : ∀ q, p q = true → ∀ v, G.hdr q = some v → G'.hdr q = some v) (hr : obOk p x) (hp : PresO G w G' w' o) (h : RelO G w o x) : RelO G' w' o x := by
  cases x with
  | free => exact hp.hdr.trans h
  | dead => trivial
  | cell x =>
    obtain ⟨b, cs, e, h1, h2, h3, h4⟩ := h
    obtain ⟨k1, k2⟩ := hp.block b (by rw [h1]; rfl) (lt_of_heap h2)
    exact ⟨b, cs, e, hp.hdr.trans h1, k1.trans h2, Enc.mono hs hp.ow (fun q hq => hm q (hr q hq)) h3, fun i hi => k2 i (h4 i hi)⟩
  | arr xs =>
    obtain ⟨b, cap, cs, e, h1, h2, h3, h4, h5, h6⟩ := h
    obtain ⟨k1, k2⟩ := hp.block b (by rw [h1]; rfl) (lt_of_heap h2)
    refine ⟨b, cap, cs, e, hp.hdr.trans h1, k1.trans h2, h3, h4, fun i x hx => ?_, fun i hi => k2 i (h6 i hi)⟩
    obtain ⟨c, c1, c2⟩ := h5 i x hx
    exact ⟨c, Enc.mono hs (hp.ow.sub [i] fun _ h => h) (fun q hq => hm q (hr x (List.mem_of_getElem? hx) q hq)) c1, c2⟩
def Gh.ren (G : Gh) (o o' : Nat) : Gh := ⟨fun b i => (G.own b i).map (rlO o o'), fun k => if k = o' then G.hdr o else if k = o then none else G.hdr k⟩
theorem keys_none {l : List (Nat × Obj)} {k : Nat} (h : keys l k = false) : lk0 l k = none := by
  unfold keys at h
  cases hk : lk0 l k with
  | none => rfl
  | some x => rw [hk] at h; cases h
/-- A row's number is changed. -/
theorem Le.ren {n t o o' : Nat} {α : Type} [Enc α] {xs : List α} {tl : List (Nat × AV)} {ol : List (Nat × Obj)} (hne : Nat.beq o o' = false) (hS : ∀ k, S k → keys ol k = true)
    (h1 : (tl.all fun x => x.2.refs.all fun q => q != o && q != o') = true) (h2 : keys ol o = false) (h2' : keys ol o' = false) (h3 : ObL (fun k => k != o && k != o') ol) (hx : ∀ x ∈ xs, Enc.refs x = []) :
    Le S (mkSt n ((t, .v (NRef.ref o)) :: tl) ((o, .arr xs) :: ol)) (mkSt n ((t, .v (NRef.ref o')) :: tl) ((o', .arr xs) :: ol)) := fun G w a hr => by
  have hne' : o ≠ o' := fun e => by rw [e] at hne; simp at hne
  have hsh : Sh G w (G.ren o o') w := fun b i v e1 e2 => ⟨by simp [Gh.ren, e1], e2⟩
  have how : ∀ ω : Owner, ω.1 ≠ .blk o → ω.1 ≠ .obj o → Ow G w ω (G.ren o o') w ω never := fun ω e1 e2 b i π v _ k1 k2 => by
    refine ⟨?_, k2, id⟩
    obtain ⟨p, ρ⟩ := ω
    cases p <;> simp_all [Gh.ren, rlO]
  have hobj : ∀ ρ, Ow G w (.obj o, ρ) (G.ren o o') w (.obj o', ρ) never := fun ρ b i π v _ k1 k2 => ⟨by simp [Gh.ren, rlO, k1], k2, id⟩
  have hhm : ∀ q, (q != o && q != o') = true → ∀ v, G.hdr q = some v → (G.ren o o').hdr q = some v := fun q hq v hv => by
    simp at hq
    simp [Gh.ren, hq.1, hq.2, hv]
  refine ⟨G.ren o o', ⟨hr.defers, hr.size, fun q => ?_, fun k => ?_⟩, ⟨rfl, rfl, rfl, Nat.le_refl _, fun b i v h hc => ⟨by rcases h with h | ⟨π, h⟩ <;> simp [Gh.ren, rlO, h], hc, rfl⟩, fun _ _ _ => rfl, fun k v hk hv => ?_⟩⟩
  · have hq := hr.tmps q
    show RelT _ _ _ (lk0 ((t, .v (NRef.ref o')) :: tl) q) _
    have hq' : RelT G w (.tmp q, []) (lk0 ((t, .v (NRef.ref o)) :: tl) q) (a.tmps.getD q undef) := hq
    by_cases e : q = t
    · subst e
      rw [lk0_hit] at hq' ⊢
      obtain ⟨cs, ⟨ad, m, c, g1, g2⟩, g3⟩ := hq'
      exact ⟨cs, ⟨ad, m, c, g1, by simp [Gh.ren]; exact g2⟩, g3⟩
    · rw [lk0_miss e] at hq' ⊢
      cases hl : lk0 tl q with
      | none => trivial
      | some av =>
        rw [hl] at hq'
        have hm := lk0_mem hl
        rw [List.all_eq_true] at h1
        have hav := h1 _ hm
        rw [List.all_eq_true] at hav
        exact RelV.mono hsh (how _ (by simp) (by simp)) (fun r hr' => hhm r (hav r hr')) hq'
  · have hk := hr.objs k
    show RelO _ _ k (orr (lk0 ((o', .arr xs) :: ol) k) .free)
    have hk' : RelO G w k (orr (lk0 ((o, .arr xs) :: ol) k) .free) := hk
    by_cases e : k = o'
    · subst e
      rw [lk0_hit]
      have ho := hr.objs o
      have ho' : RelO G w o (orr (lk0 ((o, .arr xs) :: ol) o) .free) := ho
      rw [lk0_hit] at ho'
      obtain ⟨b, cap, cs, te, m1, m2, m3, m4, m5, m6⟩ := ho'
      refine ⟨b, cap, cs, te, by simp [Gh.ren, m1], m2, m3, m4, fun i x hi => ?_, fun i hi => by simp [Gh.ren, rlO, m6 i hi]⟩
      obtain ⟨c, c1, c2⟩ := m5 i x hi
      exact ⟨c, Enc.mono hsh (hobj [i]) (by rw [hx x (List.mem_of_getElem? hi)]; intro q hq; cases hq) c1, c2⟩
    · rw [lk0_miss e]
      by_cases e2 : k = o
      · subst e2
        rw [keys_none h2]
        show (G.ren k o').hdr k = none
        simp [Gh.ren, hne']
      · rw [lk0_miss e2] at hk'
        cases hl : lk0 ol k with
        | none =>
          rw [hl] at hk'
          have hk2 : G.hdr k = none := hk'
          show (G.ren o o').hdr k = none
          simp [Gh.ren, e, e2, hk2]
        | some x =>
          rw [hl] at hk'
          refine RelO.presP hsh hhm (h3.get k x hl) ⟨by simp [Gh.ren, e, e2], fun b _ _ => ⟨rfl, fun i hi => by simp [Gh.ren, rlO, hi, e2]⟩, how _ (by simp) (by simpa using e2)⟩ hk'
  · have := hS k hk
    refine hhm k ?_ v hv
    by_cases e1 : k = o
    · subst e1; rw [h2] at this; cases this
    · by_cases e2 : k = o'
      · subst e2; rw [h2'] at this; cases this
      · simp [e1, e2]
/-- A row is written no more. -/
def Gh.frz1 (G : Gh) (o b n : Nat) : Gh := ⟨fun b' i => if b' = b ∧ i < n then none else G.own b' i, fun k => if k = o then none else G.hdr k⟩
theorem frz1_sh {G : Gh} {w : Go.World} {o b n : Nat} : Sh G w (G.frz1 o b n) w := fun b' i v k1 k2 => ⟨by simp only [Gh.frz1]; split <;> first | rfl | exact k1, k2⟩
theorem frz1_ow {G : Gh} {w : Go.World} {o b n : Nat} {ω : Owner} (h : ∀ i, i < n → G.own b i = some (.blk o, [])) (hω : ω.1 ≠ .blk o) : Ow G w ω (G.frz1 o b n) w ω never := fun b' i π v _ k1 k2 => by
  refine ⟨?_, k2, id⟩
  simp only [Gh.frz1]
  by_cases e : b' = b ∧ i < n
  · obtain ⟨rfl, hi⟩ := e
    rw [h i hi] at k1
    injection k1 with k1
    exact absurd (congrArg Prod.fst k1).symm hω
  · rw [if_neg e]; exact k1
theorem frz1_keep {S : Nat → Prop} {G : Gh} {w : Go.World} {o b n : Nat} (h : ∀ i, i < n → G.own b i = some (.blk o, [])) (hS : ¬ S o) : Keep S G w (G.frz1 o b n) w :=
  ⟨rfl, rfl, rfl, Nat.le_refl _, fun b' i v k1 k2 => ⟨by
    simp only [Gh.frz1]
    by_cases e : b' = b ∧ i < n
    · obtain ⟨rfl, hi⟩ := e
      rw [h i hi] at k1
      rcases k1 with k1 | ⟨π, k1⟩ <;> simp at k1
    · rw [if_neg e], k2, rfl⟩, fun _ _ _ => rfl, fun k v hk hv => by
    have : k ≠ o := fun e => hS (e ▸ hk)
    simp [Gh.frz1, this, hv]⟩
theorem frz1_elems {α : Type} [Enc α] [Plain α] {G : Gh} {w : Go.World} {o b : Nat} {cs : List Value} {te : TypeId} {xs : List α} (m2 : w.heap[b]? = some (.cells cs.toArray te (0, 0))) (m5 : ∀ i x, xs[i]? = some x → ∃ c, Enc.rd G w (.obj o, [i]) x c ∧ ∀ j v, c[j]? = some v → cs[i * Enc.size α + j]? = some v)
    (hB : xs.length ≤ big) : Elems (G.frz1 o b cs.length) w (some ⟨b, 0, none⟩) xs := by
  refine .inr ⟨b, 0, rfl, hB, fun i x hx => ?_⟩
  obtain ⟨c, c1, c2⟩ := m5 i x hx
  refine ⟨c, Plain.mono frz1_sh c1, fun j v hj => ?_⟩
  have := c2 j v hj
  have hlt := getElem?_lt this
  refine ⟨by simp [Gh.frz1, hlt], ?_⟩
  rw [cl_row m2]
  simpa using this
theorem Le.frz {n t o : Nat} {α : Type} [Enc α] [Plain α] {xs : List α} {tl : List (Nat × AV)} {ol : List (Nat × Obj)} (hB : xs.length ≤ big) (hS : ∀ k, S k → keys ol k = true)
    (h1 : (tl.all fun x => x.2.refs.all fun q => q != o) = true) (h2 : keys ol o = false) (h3 : ObL (fun k => k != o) ol) :
    Le S (mkSt n ((t, .v (NRef.ref o)) :: tl) ((o, .arr xs) :: ol)) (mkSt n ((t, .v xs) :: tl) ol) := fun G w a hr => by
  have ho : RelO G w o (orr (lk0 ((o, .arr xs) :: ol) o) .free) := hr.objs o
  rw [lk0_hit] at ho
  obtain ⟨b, cap, cs, te, m1, m2, m3, m4, m5, m6⟩ := ho
  have hhm : ∀ q, (q != o) = true → ∀ v, G.hdr q = some v → (G.frz1 o b cs.length).hdr q = some v := fun q hq v hv => by
    simp at hq
    simp [Gh.frz1, hq, hv]
  refine ⟨G.frz1 o b cs.length, ⟨hr.defers, hr.size, fun q => ?_, fun k => ?_⟩, frz1_keep m6 (fun hs => by have := hS o hs; rw [h2] at this; cases this)⟩
  · show RelT _ _ _ (lk0 ((t, .v xs) :: tl) q) _
    have hq' : RelT G w (.tmp q, []) (lk0 ((t, .v (NRef.ref o)) :: tl) q) (a.tmps.getD q undef) := hr.tmps q
    by_cases e : q = t
    · subst e
      rw [lk0_hit] at hq' ⊢
      obtain ⟨cs', ⟨ad, m, c, g1, g2⟩, g3⟩ := hq'
      have g2' : G.hdr o = some (.slice ad m c) := g2
      rw [m1] at g2'
      injection g2' with g2'
      injection g2' with e1 e2 e3
      subst e1 e2 e3
      exact ⟨cs', ⟨_, _, g1, m3, frz1_elems m2 m5 hB⟩, g3⟩
    · rw [lk0_miss e] at hq' ⊢
      cases hl : lk0 tl q with
      | none => trivial
      | some av =>
        rw [hl] at hq'
        have hm := lk0_mem hl
        rw [List.all_eq_true] at h1
        have hav := h1 _ hm
        rw [List.all_eq_true] at hav
        exact RelV.mono frz1_sh (frz1_ow m6 (by simp)) (fun r hr' => hhm r (hav r hr')) hq'
  · show RelO _ _ k (orr (lk0 ol k) .free)
    have hk' : RelO G w k (orr (lk0 ((o, .arr xs) :: ol) k) .free) := hr.objs k
    by_cases e2 : k = o
    · subst e2
      rw [keys_none h2]
      show (G.frz1 k b cs.length).hdr k = none
      simp [Gh.frz1]
    · rw [lk0_miss e2] at hk'
      cases hl : lk0 ol k with
      | none =>
        rw [hl] at hk'
        have hk2 : G.hdr k = none := hk'
        show (G.frz1 o b cs.length).hdr k = none
        simp [Gh.frz1, e2, hk2]
      | some x =>
        rw [hl] at hk'
        refine RelO.presP frz1_sh hhm (h3.get k x hl) ⟨by simp [Gh.frz1, e2], fun b' _ _ => ⟨rfl, fun i hi => ?_⟩, frz1_ow m6 (by simp)⟩ hk'
        simp only [Gh.frz1]
        by_cases e : b' = b ∧ i < cs.length
        · obtain ⟨rfl, hi'⟩ := e
          rw [m6 i hi'] at hi
          injection hi with hi
          simp at hi
          exact absurd hi.symm e2
        · rw [if_neg e]; exact hi
/-- A world whose row is written no more. -/
theorem Le.frzWr {n t c o : Nat} {w0 : Wrld} {own : Bool} {R : List NodS} (hR : ∀ (G : Gh) (w : Go.World), RelO G w o (.arr R) → RelO G w o (.arr w0.nodes)) {tl : List (Nat × AV)} {ol : List (Nat × Obj)} (hB : w0.nodes.length ≤ big) (hne : Nat.beq c o = false) (hS : ∀ k, S k → keys ol k = true)
    (h1 : (tl.all fun x => x.2.refs.all fun q => q != o) = true) (h2 : keys ol o = false) (h2c : keys ol c = false) (h3 : ObL (fun k => k != o) ol) :
    Le S (mkSt n ((t, .box c (IsLens.whole WrldS)) :: tl) ((c, .cell (WrldS.mk w0.epoch (.ref o) ⟨w0.log, own⟩ w0.bad)) :: (o, .arr R) :: ol)) (mkSt n ((t, .box c (IsLens.whole Wrld)) :: tl) ((c, .cell w0) :: ol)) := fun G w a hr => by
  have hne' : c ≠ o := fun e => by rw [e] at hne; simp at hne
  have ho : RelO G w o (orr (lk0 ((c, _) :: (o, .arr R) :: ol) o) .free) := hr.objs o
  rw [lk0_miss (Ne.symm hne'), lk0_hit] at ho
  have ho := hR G w (show RelO G w o (.arr R) from ho)
  obtain ⟨b, cap, cs, te, m1, m2, m3, m4, m5, m6⟩ := ho
  have hhm : ∀ q, (q != o) = true → ∀ v, G.hdr q = some v → (G.frz1 o b cs.length).hdr q = some v := fun q hq v hv => by
    simp at hq
    simp [Gh.frz1, hq, hv]
  refine ⟨G.frz1 o b cs.length, ⟨hr.defers, hr.size, fun q => ?_, fun k => ?_⟩, frz1_keep m6 (fun hs => by have := hS o hs; rw [h2] at this; cases this)⟩
  · show RelT _ _ _ (lk0 ((t, .box c (IsLens.whole Wrld)) :: tl) q) _
    have hq' : RelT G w (.tmp q, []) (lk0 ((t, .box c (IsLens.whole WrldS)) :: tl) q) (a.tmps.getD q undef) := hr.tmps q
    by_cases e : q = t
    · subst e
      rw [lk0_hit] at hq' ⊢
      obtain ⟨b', g1, g2⟩ := hq'
      exact ⟨b', hhm c (by simpa using hne') _ g1, g2⟩
    · rw [lk0_miss e] at hq' ⊢
      cases hl : lk0 tl q with
      | none => trivial
      | some av =>
        rw [hl] at hq'
        have hm := lk0_mem hl
        rw [List.all_eq_true] at h1
        have hav := h1 _ hm
        rw [List.all_eq_true] at hav
        exact RelV.mono frz1_sh (frz1_ow m6 (by simp)) (fun r hr' => hhm r (hav r hr')) hq'
  · show RelO _ _ k (orr (lk0 ((c, .cell w0) :: ol) k) .free)
    have hk' : RelO G w k (orr (lk0 ((c, _) :: (o, .arr R) :: ol) k) .free) := hr.objs k
    by_cases ec : k = c
    · subst ec
      rw [lk0_hit] at hk' ⊢
      obtain ⟨b', cs', te', q1, q2, q3, q4⟩ := hk'
      refine ⟨b', cs', te', hhm k (by simpa using hne') _ q1, q2, ?_, fun i hi => ?_⟩
      · obtain ⟨c1, c2, rfl, r1, ⟨c3, c4, rfl, r3, ⟨c5, c6, rfl, ⟨ad, cp, l1, l2, l3, _⟩, r6⟩⟩⟩ := q3
        obtain ⟨ad', n', c', g1, g2⟩ := r3
        have g2' : G.hdr o = some (.slice ad' n' c') := g2
        rw [m1] at g2'
        injection g2' with g2'
        injection g2' with e1 e2 e3
        subst e1 e2 e3
        exact ⟨c1, _, rfl, r1, c3, _, rfl, ⟨some ⟨b, 0, none⟩, cap, g1, m3, frz1_elems m2 m5 hB⟩, c5, c6, rfl, ⟨ad, cp, l1, l2, l3.mono frz1_sh⟩, r6⟩
      · simp only [Gh.frz1]
        by_cases e : b' = b ∧ i < cs.length
        · obtain ⟨rfl, hi'⟩ := e
          have := q4 i hi
          rw [m6 i hi'] at this
          injection this with this
          simp at this
          exact absurd this.symm hne'
        · rw [if_neg e]; exact q4 i hi
    · rw [lk0_miss ec] at hk' ⊢
      by_cases e2 : k = o
      · subst e2
        rw [keys_none h2]
        show (G.frz1 k b cs.length).hdr k = none
        simp [Gh.frz1]
      · rw [lk0_miss e2] at hk'
        cases hl : lk0 ol k with
        | none =>
          rw [hl] at hk'
          have hk2 : G.hdr k = none := hk'
          show (G.frz1 o b cs.length).hdr k = none
          simp [Gh.frz1, e2, hk2]
        | some x =>
          rw [hl] at hk'
          refine RelO.presP frz1_sh hhm (h3.get k x hl) ⟨by simp [Gh.frz1, e2], fun b' _ _ => ⟨rfl, fun i hi => ?_⟩, frz1_ow m6 (by simp)⟩ hk'
          simp only [Gh.frz1]
          by_cases e : b' = b ∧ i < cs.length
          · obtain ⟨rfl, hi'⟩ := e
            rw [m6 i hi'] at hi
            injection hi with hi
            simp at hi
            exact absurd hi.symm e2
          · rw [if_neg e]; exact hi
theorem Le.frzW {n t c o : Nat} {w0 : Wrld} {own : Bool} {tl : List (Nat × AV)} {ol : List (Nat × Obj)} (hB : w0.nodes.length ≤ big) (hne : Nat.beq c o = false) (hS : ∀ k, S k → keys ol k = true)
    (h1 : (tl.all fun x => x.2.refs.all fun q => q != o) = true) (h2 : keys ol o = false) (h2c : keys ol c = false) (h3 : ObL (fun k => k != o) ol) :
    Le S (mkSt n ((t, .box c (IsLens.whole WrldS)) :: tl) ((c, .cell (WrldS.mk w0.epoch (.ref o) ⟨w0.log, own⟩ w0.bad)) :: (o, .arr (w0.nodes.map sN)) :: ol)) (mkSt n ((t, .box c (IsLens.whole Wrld)) :: tl) ((c, .cell w0) :: ol)) :=
  Le.frzWr (fun _ _ => arr_n) hB hne hS h1 h2 h2c h3
/-- A variable seen in another way. -/
theorem Le.recell {n t c : Nat} {α β : Type} [Enc α] [Enc β] {x : α} {y : β} {tl : List (Nat × AV)} {ol : List (Nat × Obj)} (hc : ∀ (G : Gh) (w : Go.World) (ω : Owner) (cs : List Value), Enc.rd G w ω x cs → Enc.rd G w ω y cs) :
    Le S (mkSt n ((t, .box c (IsLens.whole α)) :: tl) ((c, .cell x) :: ol)) (mkSt n ((t, .box c (IsLens.whole β)) :: tl) ((c, .cell y) :: ol)) := fun G w a hr => by
  refine ⟨G, ⟨hr.defers, hr.size, fun q => ?_, fun k => ?_⟩, Keep.refl _ _ _⟩
  · show RelT _ _ _ (lk0 ((t, .box c (IsLens.whole β)) :: tl) q) _
    have hq' : RelT G w (.tmp q, []) (lk0 ((t, .box c (IsLens.whole α)) :: tl) q) (a.tmps.getD q undef) := hr.tmps q
    by_cases e : q = t
    · subst e
      rw [lk0_hit] at hq' ⊢
      exact hq'
    · rw [lk0_miss e] at hq' ⊢
      exact hq'
  · show RelO _ _ k (orr (lk0 ((c, .cell y) :: ol) k) .free)
    have hk' : RelO G w k (orr (lk0 ((c, .cell x) :: ol) k) .free) := hr.objs k
    by_cases e : k = c
    · subst e
      rw [lk0_hit] at hk' ⊢
      obtain ⟨b', cs', te', q1, q2, q3, q4⟩ := hk'
      exact ⟨b', cs', te', q1, q2, hc _ _ _ _ q3, q4⟩
    · rw [lk0_miss e] at hk' ⊢
      exact hk'
end Go.Wt

/- What further draws give. -/
set_option linter.unusedVariables false
set_option linter.unusedSimpArgs false
namespace Go.Wt
def gi (l : List Int) (i : Int) : Int := l.getD i.toNat 0
theorem gi_get {l : List Int} {i : Int} (h0 : 0 ≤ i) (h : i < l.length) : l[i.toNat]? = some (gi l i) := by
  unfold gi
  rw [List.getD_eq_getElem?_getD, List.getElem?_eq_getElem (by omega)]; rfl
def anyPayF (r : Rd) : Pay × Rd :=
  if pk (nx r 3) 12 = 0 then ({ payV r with to := (payV r).frm }, nx r 4) else
  if pk (nx r 3) 12 = 1 then ({ payV r with sum := gi [0, 10] (pk (nx r 4) 2) }, nx r 5) else
  if pk (nx r 3) 12 = 2 then ({ payV r with frm := gi [0, 4] (pk (nx r 4) 2) }, nx r 5) else (payV r, nx r 4)
theorem anyPay_p (r : Rd) : r.p + 4 ≤ (anyPayF r).2.p ∧ (anyPayF r).2.p ≤ r.p + 5 := by
  unfold anyPayF
  repeat' split
  all_goals simp only [nx]
  all_goals omega
/-- A chain, seldom spoilt. -/
def offAt (c : List Itm) (r : Rd) : List Itm × Rd :=
  if pk r 16 = 0 then (c ++ [⟨pk (nx r 1) 4, (anyPayF (nx r 2)).1⟩], (anyPayF (nx r 2)).2) else
  if pk r 16 = 1 then (if 0 < c.length then (c.set (pk (nx r 1) c.length).toNat { c.getD (pk (nx r 1) c.length).toNat Itm.zero with epoch := gi [0, 30, 31] (pk (nx r 2) 3) }, nx r 3) else (c, nx r 1)) else
  if pk r 16 = 2 then (if 0 < c.length then (c.set (pk (nx r 1) c.length).toNat { c.getD (pk (nx r 1) c.length).toNat Itm.zero with pay := (anyPayF (nx r 2)).1 }, (anyPayF (nx r 2)).2) else (c, nx r 1)) else (c, nx r 1)
def offF (r : Rd) : List Itm × Rd := offAt (chainV r) (chainR r)
theorem offAt_p (c : List Itm) (r : Rd) : r.p ≤ (offAt c r).2.p ∧ (offAt c r).2.p ≤ r.p + 8 ∧ (offAt c r).1.length ≤ c.length + 1 := by
  have := anyPay_p (nx r 2)
  have e : (nx r 2).p = r.p + 2 := rfl
  unfold offAt
  repeat' split
  all_goals simp only [nx, List.length_append, List.length_set, List.length_cons, List.length_nil] at *
  all_goals omega
theorem off_far {m m' : Int} {r : Rd} (h : Far m r) (hm : m ≤ 900000) (hm' : m + 40 ≤ m') : Far m' (offF r).2 := by
  have h1 := chainR_far h (by omega)
  have := offAt_p (chainV r) (chainR r)
  unfold offF
  unfold Far at *
  omega
theorem off_len {m : Int} {r : Rd} (h : Far m r) (hm : m ≤ 900000) : (offF r).1.length ≤ 7 := by
  have h1 := chainV_len h (by omega)
  have := offAt_p (chainV r) (chainR r)
  unfold offF
  omega
theorem chainR_ge {m : Int} {r : Rd} (h : Far m r) (hm : m ≤ 1000000) : r.p ≤ (chainR r).p := by
  have := pk_bd h hm 7
  rw [chainR_eq]; simp only [nx]; omega
theorem off_ge {m : Int} {r : Rd} (h : Far m r) (hm : m ≤ 900000) : r.p ≤ (offF r).2.p := by
  have h1 := chainR_ge h (by omega)
  have := offAt_p (chainV r) (chainR r)
  unfold offF
  omega
/-- A vote's chain, if nothing is drawn. -/
def voteC (c : List Itm) (r : Rd) : List Itm × Rd :=
  if c.length = 0 then (if 0 < pk r 4 then ([⟨1 + pk (nx r 1) 3, payV (nx r 2)⟩], nx r 5) else (c, nx r 1)) else (c, r)
def voteB (b : Int) (r : Rd) : Int × Rd := if pk r 16 = 0 then (gi [0, 5] (pk (nx r 1) 2), nx r 2) else (b, nx r 1)
def voteDF (r : Rd) : Vote × Rd :=
  (⟨(voteB (1 + pk r 4) (voteC (offF (nx r 1)).1 (offF (nx r 1)).2).2).1, (voteC (offF (nx r 1)).1 (offF (nx r 1)).2).1⟩, (voteB (1 + pk r 4) (voteC (offF (nx r 1)).1 (offF (nx r 1)).2).2).2)
theorem voteC_p (c : List Itm) (r : Rd) : r.p ≤ (voteC c r).2.p ∧ (voteC c r).2.p ≤ r.p + 5 ∧ (voteC c r).1.length ≤ c.length + 1 := by
  unfold voteC
  repeat' split
  all_goals simp only [nx, List.length_cons, List.length_nil]
  all_goals omega
theorem voteB_p (b : Int) (r : Rd) : r.p ≤ (voteB b r).2.p ∧ (voteB b r).2.p ≤ r.p + 2 := by
  unfold voteB
  split <;> simp only [nx] <;> omega
theorem voteD_p {m : Int} {r : Rd} (h : Far m r) (hm : m ≤ 800000) : r.p ≤ (voteDF r).2.p ∧ (voteDF r).2.p ≤ m + 60 ∧ (voteDF r).1.chain.length ≤ 8 := by
  have h1 : Far (m + 1) (nx r 1) := h.nx (by omega) (by omega)
  have h2 := off_far h1 (by omega) (Int.le_refl _)
  have h2' := off_ge h1 (by omega)
  have h3 := off_len h1 (by omega)
  have h4 := voteC_p (offF (nx r 1)).1 (offF (nx r 1)).2
  have h5 := voteB_p (1 + pk r 4) (voteC (offF (nx r 1)).1 (offF (nx r 1)).2).2
  have e : (nx r 1).p = r.p + 1 := rfl
  unfold voteDF
  unfold Far at h2
  simp only
  omega
theorem voteD_far {m m' : Int} {r : Rd} (h : Far m r) (hm : m ≤ 800000) (hm' : m + 60 ≤ m') : Far m' (voteDF r).2 := by
  have := voteD_p h hm
  unfold Far at *
  omega
instance (n : Nod) : Grow Vote (.v (sN n).seen) n.seen := inferInstanceAs (Grow Vote (.v (OList.mk n.seen true)) n.seen)
instance (w : Wrld) : Grow Vote (.v (sW w).log) w.log := inferInstanceAs (Grow Vote (.v (OList.mk w.log true)) w.log)
/-- A world of a drawn one's size. -/
structure Lw (w : Wrld) : Prop where
  ep : -100 ≤ w.epoch ∧ w.epoch ≤ 100
  four : w.nodes.length = 4
  ll : w.log.length ≤ 100
  lc : ∀ v ∈ w.log, v.chain.length ≤ 30
  sl : ∀ n ∈ w.nodes, n.seen.length ≤ 100 ∧ ∀ v ∈ n.seen, v.chain.length ≤ 30
theorem FineX.lw {w : Wrld} (h : FineX w) : Lw w :=
  ⟨by have := h.fine.ep; omega, h.four, by have := h.fine.ll; omega, fun v hv => by have := chainOk_len (voteOk_chain (h.fine.log.ok v hv)); omega, fun n hn =>
    ⟨by have := h.fine.sl n hn; omega, fun v hv => by have := chainOk_len (voteOk_chain ((h.fine.seen n hn).ok v hv)); omega⟩⟩
end Go.Wt

/- The reference: further draws. -/
set_option linter.unusedVariables false
set_option linter.unusedSimpArgs false
namespace Go.Proofs.Ytmabpmlcclgecaa
open Go Go.Wt
set_option maxHeartbeats 1000000 in
theorem anyPay_ct (r : Rd) (hp : Far 800000 r) : CtO Try.prog 96 [.box 0 (IsLens.whole Rd)] [(0, .cell r)] (.v (anyPayF r).1) [(0, .cell (anyPayF r).2)] := by
  have hp3 : Far 800003 (nx r 3) := hp.nx (by omega) (by omega)
  have hp4 : Far 800004 (nx (nx r 3) 1) := hp3.nx (by omega) (by omega)
  have e4 : nx (nx r 3) 1 = nx r 4 := nx_nx r 3 1
  have e5 : nx (nx (nx r 3) 1) 1 = nx r 5 := by rw [e4]; exact nx_nx r 4 1
  have b2 := pk_bd hp4 (by omega) 2
  have c2 := b2.2 (by omega)
  have g1 := gi_get (l := [0, 10]) b2.1 (by simp; omega)
  have g2 := gi_get (l := [0, 4]) b2.1 (by simp; omega)
  refine Ct.intro Try.func96 rfl rfl ?_
  all_goals refine awp_seq (awp_region (id := 0) ?_)
  all_goals refine awpOps_cons (op_alloc (o := 2) z36 rfl rfl) ?_
  all_goals refine awpOps_nil ?_
  all_goals refine awp_seq (awp_region (id := 1) ?_)
  all_goals refine awpOps_cons (op_mv rfl (Conv.of rfl) rfl) ?_
  all_goals refine awpOps_cons (op_callO fb38 (.cons rfl (Conv.of rfl) (.nil _)) (l71Pay_ct r (hp.weak (by omega))) (olsk rfl ols0) (oksk (by exact obOk_cell) oks0) (oksk (by exact obOk_cell) oks0) rfl (argOb rfl rfl rfl argO0) (fun o ho => by cases ho) rfl) ?_
  all_goals refine awpOps_cons (op_alloc (o := 3) z36 rfl rfl) ?_
  all_goals refine awpOps_cons (op_st ty36 rfl rfl (Conv.of rfl) rfl) ?_
  all_goals refine awpOps_nil ?_
  all_goals refine awp_seq (awp_seq (awp_region (id := 2) ?_))
  all_goals refine awpOps_cons (op_mv rfl (Conv.of rfl) rfl) ?_
  all_goals refine awpOps_cons (op_callO fb33 (.cons rfl (Conv.of rfl) (.cons rfl (Conv.of rfl) (.nil _))) (pick_ct (nx r 3) 12 (by unfold Far at hp3; omega)) (olsk rfl ols0) (oksk (by exact obOk_cell) oks0) (oksk (by exact obOk_cell) oks0) rfl (argOb rfl rfl rfl (argOk' rfl rfl argO0)) (fun o ho => by cases ho) rfl) ?_
  all_goals refine awpOps_nil ?_
  refine awp_to (s' := mkSt 30 [(2, .box 2 (IsLens.whole Pay)), (3, .box 3 (IsLens.whole Pay))] [(0, .cell (anyPayF r).2), (2, .cell Pay.zero), (3, .cell (anyPayF r).1)]) ?_ ?_
  · refine awp_block ?_
    all_goals refine awp_seq (awp_region (id := 3) ?_)
    all_goals refine awpOps_cons (op_eql rfl rfl rfl) ?_
    all_goals refine awpOps_cons (op_as rfl (Conv.of rfl) rfl) ?_
    all_goals refine awpOps_nil ?_
    refine awp_cond rfl (fun h => ?_) (fun h => ?_)
    · have hk := of_decide_eq_true h
      rw [show anyPayF r = ({ payV r with to := (payV r).frm }, nx (nx r 3) 1) by unfold anyPayF; rw [if_pos hk, e4]]
      all_goals refine awp_region (id := 4) ?_
      all_goals refine awpOps_cons (op_fab f36_0 rfl rfl) ?_
      all_goals refine awpOps_cons (op_ld ty3 rfl rfl rfl) ?_
      all_goals refine awpOps_cons (op_fab f36_1 rfl rfl) ?_
      all_goals refine awpOps_cons (op_st ty3 rfl rfl (Conv.of rfl) rfl) ?_
      all_goals refine awpOps_nil ?_
      repeat first | refine nx_seq ?_ | refine nx_block ?_
      all_goals exact Le.mk rfl (tlb rfl rfl rfl (tlb rfl rfl rfl tln)) (olk rfl (by exact obOk_cell) (olk rfl (by exact obOk_cell) (olk rfl (by exact obOk_cell) oln))) (hS_sub (a := [(0, .cell r)]) rfl)
    · have hk := of_decide_eq_false h
      all_goals refine awp_seq (awp_region (id := 5) ?_)
      all_goals refine awpOps_cons (op_eql rfl rfl rfl) ?_
      all_goals refine awpOps_cons (op_as rfl (Conv.of rfl) rfl) ?_
      all_goals refine awpOps_nil ?_
      refine awp_cond rfl (fun h2 => ?_) (fun h2 => ?_)
      · have hk2 := of_decide_eq_true h2
        rw [show anyPayF r = ({ payV r with sum := gi [0, 10] (pk (nx (nx r 3) 1) 2) }, nx (nx (nx r 3) 1) 1) by unfold anyPayF; rw [if_neg hk, if_pos hk2, e5, e4]]
        all_goals refine awp_region (id := 6) ?_
        all_goals refine awpOps_cons (op_bsl sl52 z3 (.cons rfl (Conv.of rfl) (.cons rfl (Conv.of rfl) (.nil _))) rfl (by decide) rfl) ?_
        all_goals refine awpOps_cons (op_mv rfl (Conv.of rfl) rfl) ?_
        all_goals refine awpOps_cons (op_callO fb33 (.cons rfl (Conv.of rfl) (.cons rfl (Conv.of rfl) (.nil _))) (pick_ct (nx (nx r 3) 1) 2 (by unfold Far at hp4; omega)) (olsk rfl ols0) (oksk (by exact obOk_cell) oks0) (oksk (by exact obOk_cell) oks0) rfl (argOb rfl rfl rfl (argOk' rfl rfl argO0)) (fun o ho => by cases ho) rfl) ?_
        all_goals refine awpOps_cons (op_ix sl52 rfl rfl rfl b2.1 g1) ?_
        all_goals refine awpOps_cons (op_ldr ty3 rfl rfl) ?_
        all_goals refine awpOps_cons (op_fab f36_2 rfl rfl) ?_
        all_goals refine awpOps_cons (op_st ty3 rfl rfl (Conv.of rfl) rfl) ?_
        all_goals refine awpOps_nil ?_
        repeat first | refine nx_seq ?_ | refine nx_block ?_
        all_goals exact Le.mk rfl (tlb rfl rfl rfl (tlb rfl rfl rfl tln)) (olk rfl (by exact obOk_cell) (olk rfl (by exact obOk_cell) (olk rfl (by exact obOk_cell) oln))) (hS_sub (a := [(0, .cell r)]) rfl)
      · have hk2 := of_decide_eq_false h2
        all_goals refine awp_seq (awp_region (id := 7) ?_)
        all_goals refine awpOps_cons (op_eql rfl rfl rfl) ?_
        all_goals refine awpOps_cons (op_as rfl (Conv.of rfl) rfl) ?_
        all_goals refine awpOps_nil ?_
        refine awp_cond rfl (fun h3 => ?_) (fun h3 => ?_)
        · have hk3 := of_decide_eq_true h3
          rw [show anyPayF r = ({ payV r with frm := gi [0, 4] (pk (nx (nx r 3) 1) 2) }, nx (nx (nx r 3) 1) 1) by unfold anyPayF; rw [if_neg hk, if_neg hk2, if_pos hk3, e5, e4]]
          all_goals refine awp_region (id := 8) ?_
          all_goals refine awpOps_cons (op_bsl sl52 z3 (.cons rfl (Conv.of rfl) (.cons rfl (Conv.of rfl) (.nil _))) rfl (by decide) rfl) ?_
          all_goals refine awpOps_cons (op_mv rfl (Conv.of rfl) rfl) ?_
          all_goals refine awpOps_cons (op_callO fb33 (.cons rfl (Conv.of rfl) (.cons rfl (Conv.of rfl) (.nil _))) (pick_ct (nx (nx r 3) 1) 2 (by unfold Far at hp4; omega)) (olsk rfl ols0) (oksk (by exact obOk_cell) oks0) (oksk (by exact obOk_cell) oks0) rfl (argOb rfl rfl rfl (argOk' rfl rfl argO0)) (fun o ho => by cases ho) rfl) ?_
          all_goals refine awpOps_cons (op_ix sl52 rfl rfl rfl b2.1 g2) ?_
          all_goals refine awpOps_cons (op_ldr ty3 rfl rfl) ?_
          all_goals refine awpOps_cons (op_fab f36_0 rfl rfl) ?_
          all_goals refine awpOps_cons (op_st ty3 rfl rfl (Conv.of rfl) rfl) ?_
          all_goals refine awpOps_nil ?_
          repeat first | refine nx_seq ?_ | refine nx_block ?_
          all_goals exact Le.mk rfl (tlb rfl rfl rfl (tlb rfl rfl rfl tln)) (olk rfl (by exact obOk_cell) (olk rfl (by exact obOk_cell) (olk rfl (by exact obOk_cell) oln))) (hS_sub (a := [(0, .cell r)]) rfl)
        · have hk3 := of_decide_eq_false h3
          rw [show anyPayF r = (payV r, nx (nx r 3) 1) by unfold anyPayF; rw [if_neg hk, if_neg hk2, if_neg hk3, e4]]
          refine awp_skip ?_
          repeat first | refine nx_seq ?_ | refine nx_block ?_
          all_goals exact Le.mk rfl (tlb rfl rfl rfl (tlb rfl rfl rfl tln)) (olk rfl (by exact obOk_cell) (olk rfl (by exact obOk_cell) (olk rfl (by exact obOk_cell) oln))) (hS_sub (a := [(0, .cell r)]) rfl)
  · all_goals refine awp_seq (awp_region (id := 9) ?_)
    all_goals refine awpOps_cons (op_ld ty36 rfl rfl rfl) ?_
    all_goals refine awpOps_cons (op_st ty36 rfl rfl (Conv.of rfl) rfl) ?_
    all_goals refine awpOps_nil ?_
    refine awp_ret ?_
    repeat first | refine rt_seq ?_ | refine rt_block ?_
    exact finO1 [(0, .cell (anyPayF r).2)] (.rc ty36 rfl rfl) (fun o ho => by cases ho) (olk rfl obOk_cell oln) (hS_keys rfl) rfl
set_option maxHeartbeats 1000000 in
theorem chainA_ct (r : Rd) (hp : Far 800000 r) : CtO Try.prog 95 [.box 0 (IsLens.whole Rd)] [(0, .cell r)] (.v (NRef.ref 2)) [(0, .cell (chainR r)), (2, .arr (chainV r))] := by
  have b0 := pk_bd hp (by omega) 7
  have c0 := b0.2 (by omega)
  refine Ct.intro Try.func95 rfl rfl ?_
  all_goals refine awp_seq (awp_region (id := 0) ?_)
  all_goals refine awpOps_cons (op_as rfl (Conv.of rfl) rfl) ?_
  all_goals refine awpOps_nil ?_
  all_goals refine awp_seq (awp_region (id := 1) ?_)
  all_goals refine awpOps_cons (op_bsa (o := 2) sl26 z38 (.nil _) rfl (by decide) rfl rfl) ?_
  all_goals refine awpOps_cons (op_as rfl (Conv.nr) rfl) ?_
  all_goals refine awpOps_nil ?_
  all_goals refine awp_seq (awp_region (id := 2) ?_)
  all_goals refine awpOps_cons (op_as rfl (Conv.of rfl) rfl) ?_
  all_goals refine awpOps_nil ?_
  all_goals refine awp_seq (awp_seq (awp_region (id := 3) ?_))
  all_goals refine awpOps_cons (op_mv rfl (Conv.of rfl) rfl) ?_
  all_goals refine awpOps_cons (op_callO fb33 (.cons rfl (Conv.of rfl) (.cons rfl (Conv.of rfl) (.nil _))) (pick_ct r 7 (by unfold Far at hp; omega)) (olsk rfl ols0) (oksk (by exact obOk_cell) oks0) (oksk (by exact obOk_cell) oks0) rfl (argOb rfl rfl rfl (argOk' rfl rfl argO0)) (fun o ho => by cases ho) rfl) ?_
  all_goals refine awpOps_cons (op_as rfl (Conv.of rfl) rfl) ?_
  all_goals refine awpOps_nil ?_
  refine awp_block ?_
  refine awp_loop' (fun n_ s => ∃ (k : Nat), ∃ (hk : n_ + k = (pk r 7).toNat), s = mkSt 30 [(3, .v (NRef.ref 2)), (0, .box 0 (IsLens.whole Rd)), (4, .v (chIter r k).1), (5, .v (pk r 7 - (k : Int)))] [(2, .arr (chIter r k).2.1), (0, .cell (chIter r k).2.2)]) ((pk r 7).toNat) ⟨0, by omega, rfl⟩ (Le.mk rfl (tlb rfl rfl rfl (tlb rfl rfl rfl (tle rfl (rfl) rfl (tle rfl (by (show AV.v _ = AV.v _; congr 1; omega)) rfl tln)))) (olk rfl (by exact obOk_arr) (olk rfl (by exact obOk_cell) oln)) (hS_sub (a := [(0, .cell r)]) rfl)) ?_
  rintro n_ s ⟨k, hk, rfl⟩
  have hk6 : k ≤ 6 := by omega
  have hat := chIter_at hp (by omega) k (by omega)
  have hf0 : Far 800500 (chIter r k).2.2 := by rw [chIter_r]; exact hp.nx (by omega) (by omega)
  have hln := chIter_len r k
  all_goals refine awp_seq (awp_seq (awp_region (id := 4) ?_))
  all_goals refine awpOps_cons (op_mv rfl (Conv.of rfl) rfl) ?_
  all_goals refine awpOps_cons (op_gtr rfl rfl rfl) ?_
  all_goals refine awpOps_nil ?_
  refine awp_cond rfl (fun h => ?_) (fun h => ?_)
  · have hlt : (k : Int) < pk r 7 := by have := of_decide_eq_true h; omega
    have hst : chIter r (k + 1) = chStep (chIter r k) := rfl
    generalize hs : chIter r k = s at hat hf0 hln hst
    have hf1 : Far 800501 (nx s.2.2 1) := hf0.nx (by omega) (by omega)
    have hf2 : Far 800502 (nx (nx s.2.2 1) 1) := hf1.nx (by omega) (by omega)
    have d0 := pk_bd hf0 (by omega) 6
    have d1 := pk_bd hf1 (by omega) 3
    have e0 := d0.2 (by omega)
    have e1 := d1.2 (by omega)
    have hq : IntKind.i64.wrap ((pk s.2.2 6).tdiv 5) = 0 ∨ IntKind.i64.wrap ((pk s.2.2 6).tdiv 5) = 1 := by
      have : (pk s.2.2 6).tdiv 5 = 0 ∨ (pk s.2.2 6).tdiv 5 = 1 := by
        rw [Int.tdiv_eq_ediv_of_nonneg d0.1]; omega
      rw [wrap_in (by omega)]; exact this
    have hm : 0 ≤ IntKind.i64.wrap ((pk s.2.2 6).tdiv 5) * pk (nx s.2.2 1) 3 ∧ IntKind.i64.wrap ((pk s.2.2 6).tdiv 5) * pk (nx s.2.2 1) 3 ≤ 2 := by
      rcases hq with hq | hq <;> rw [hq] <;> omega
    refine awp_skip ?_
    refine awp_seq (awp_block ?_)
    all_goals refine awp_seq (awp_region (id := 6) ?_)
    all_goals refine awpOps_cons (op_mv rfl (Conv.of rfl) rfl) ?_
    all_goals refine awpOps_cons (op_add rfl rfl rfl (by omega)) ?_
    all_goals refine awpOps_cons (op_mv rfl (Conv.of rfl) rfl) ?_
    all_goals refine awpOps_cons (op_callO fb33 (.cons rfl (Conv.of rfl) (.cons rfl (Conv.of rfl) (.nil _))) (pick_ct s.2.2 6 (by unfold Far at hf0; omega)) (olsk rfl ols0) (oksk (by exact obOk_cell) oks0) (oksk (by exact obOk_cell) oks0) rfl (argOb rfl rfl rfl (argOk' rfl rfl argO0)) (fun o ho => by cases ho) rfl) ?_
    all_goals refine awpOps_cons (op_quo rfl rfl rfl (by decide)) ?_
    all_goals refine awpOps_cons (op_mv rfl (Conv.of rfl) rfl) ?_
    all_goals refine awpOps_cons (op_callO fb33 (.cons rfl (Conv.of rfl) (.cons rfl (Conv.of rfl) (.nil _))) (pick_ct (nx s.2.2 1) 3 (by unfold Far at hf1; omega)) (olsk rfl ols0) (oksk (by exact obOk_cell) oks0) (oksk (by exact obOk_cell) oks0) rfl (argOb rfl rfl rfl (argOk' rfl rfl argO0)) (fun o ho => by cases ho) rfl) ?_
    all_goals refine awpOps_cons (op_mul rfl rfl rfl (by omega)) ?_
    all_goals refine awpOps_cons (op_add rfl rfl rfl (by omega)) ?_
    all_goals refine awpOps_cons (op_as rfl (Conv.of rfl) rfl) ?_
    all_goals refine awpOps_nil ?_
    refine awp_toB (s' := mkSt 30 [(3, .v (NRef.ref 3)), (0, .box 0 (IsLens.whole Rd)), (4, .v (chIter r (k + 1)).1), (5, .v (pk r 7 - (k : Int)))] [(3, .arr (chIter r (k + 1)).2.1), (0, .cell (chIter r (k + 1)).2.2)]) ?_ ?_
    · all_goals refine awp_region (id := 7) ?_
      all_goals refine awpOps_cons (op_mv rfl (Conv.of rfl) rfl) ?_
      all_goals refine awpOps_cons (op_mv rfl (Conv.of rfl) rfl) ?_
      all_goals refine awpOps_cons (op_mv rfl (Conv.of rfl) rfl) ?_
      all_goals refine awpOps_cons (op_callO fb38 (.cons rfl (Conv.of rfl) (.nil _)) (l71Pay_ct (nx (nx s.2.2 1) 1) (hf2.weak (by omega))) (olsk rfl ols0) (oksk (by exact obOk_cell) oks0) (oksk (by exact obOk_cell) oks0) rfl (argOb rfl rfl rfl argO0) (fun o ho => by cases ho) rfl) ?_
      all_goals refine awpOps_cons (op_build (.cons f38_0 rfl (Conv.of rfl) (.cons f38_1 rfl (Conv.of rfl) (.nil _))) z38 rfl pl38 rfl) ?_
      all_goals refine awpOps_cons (op_bsl sl26 z38 (.cons rfl (Conv.of rfl) (.nil _)) rfl (by decide) rfl) ?_
      all_goals refine awpOps_cons (op_apA (o' := 3) sl26 z38 ul26 rfl rfl rfl rfl (by simp) (by (simp; omega)) (by (simp; omega)) rfl) ?_
      all_goals refine awpOps_cons (op_as rfl (Conv.of rfl) rfl) ?_
      all_goals refine awpOps_nil ?_
      all_goals exact Le.mk rfl (tlb rfl rfl rfl (tlb rfl rfl rfl (tle rfl (by (rw [hst]; rfl)) rfl (tle rfl (rfl) rfl tln)))) (olk (by (rw [hst]; simp only [chStep, nx_nx]; rfl)) (by exact obOk_arr) (olk (by (rw [hst]; simp only [chStep, nx_nx]; rfl)) (by exact obOk_cell) oln)) (hS_sub (a := [(0, .cell r)]) rfl)
    refine awp_le (Le.ren (o := 3) (o' := 2) (t := 3) rfl (hS_sub rfl) rfl rfl rfl (oblk obOk_cell obl0) (fun x _ => Plain.refs_eq x)) ?_
    all_goals refine awp_region (id := 5) ?_
    all_goals refine awpOps_cons (op_mv rfl (Conv.of rfl) rfl) ?_
    all_goals refine awpOps_cons (op_sub rfl rfl rfl (by omega)) ?_
    all_goals refine awpOps_cons (op_as rfl (Conv.of rfl) rfl) ?_
    all_goals refine awpOps_nil ?_
    repeat first | refine nx_seq ?_ | refine nx_block ?_
    exact ⟨n_ - 1, _, by omega, ⟨k + 1, by omega, rfl⟩, Le.mk rfl (tlb rfl rfl rfl (tlb rfl rfl rfl (tle rfl (rfl) rfl (tle rfl (by (show AV.v _ = AV.v _; congr 1; omega)) rfl tln)))) (olk rfl (by exact obOk_arr) (olk rfl (by exact obOk_cell) oln)) (hS_sub (a := [(0, .cell r)]) rfl)⟩
  · refine awp_exit ?_
    repeat refine ex_seq ?_
    refine ex_block ?_
    have hge : pk r 7 - (k : Int) ≤ 0 := by have := of_decide_eq_false h; omega
    have hk' : k = (pk r 7).toNat := by omega
    all_goals refine awp_seq (awp_region (id := 8) ?_)
    all_goals refine awpOps_cons (op_mv rfl (Conv.of rfl) rfl) ?_
    all_goals refine awpOps_cons (op_as rfl (Conv.of rfl) rfl) ?_
    all_goals refine awpOps_nil ?_
    refine awp_ret ?_
    repeat first | refine rt_seq ?_ | refine rt_block ?_
    subst hk'
    exact finO1 [(0, .cell (chainR r)), (2, .arr (chainV r))] (.v rfl (Conv.of rfl)) (fun o ho => (by have h2 : o = 2 := (by simpa using (show o ∈ [2] from ho)); (subst h2; rfl))) (olk rfl obOk_cell (olk rfl obOk_arr oln)) (hS_sub rfl) rfl
set_option maxHeartbeats 4000000 in
theorem off_ct (r : Rd) (hp : Far 700000 r) : CtO Try.prog 64 [.box 0 (IsLens.whole Rd)] [(0, .cell r)] (.v (offF r).1) [(0, .cell (offF r).2)] := by
  have hc6 := chainV_len hp (by omega)
  have hf1 := chainR_far hp (by omega)
  have hch := chainA_ct r (hp.weak (by omega))
  unfold offF
  generalize chainV r = c at hc6 hch ⊢
  generalize chainR r = r1 at hf1 hch ⊢
  have hf2 : Far 700032 (nx r1 1) := hf1.nx (by omega) (by omega)
  have hf3 : Far 700033 (nx (nx r1 1) 1) := hf2.nx (by omega) (by omega)
  have e2 : nx (nx r1 1) 1 = nx r1 2 := nx_nx r1 1 1
  have e3 : nx (nx (nx r1 1) 1) 1 = nx r1 3 := by rw [e2]; exact nx_nx r1 2 1
  have b3 := pk_bd hf3 (by omega) 3
  have c3 := b3.2 (by omega)
  have g3 := gi_get (l := [0, 30, 31]) b3.1 (by simp; omega)
  have bc := pk_bd hf2 (by omega) (c.length : Int)
  have hx : 0 < c.length → c[(pk (nx r1 1) (c.length : Int)).toNat]? = some (c.getD (pk (nx r1 1) (c.length : Int)).toNat Itm.zero) := fun h0 => by
    have := bc.2 (by omega)
    rw [List.getD_eq_getElem?_getD, List.getElem?_eq_getElem (show (pk (nx r1 1) (c.length : Int)).toNat < c.length by omega)]; rfl
  refine Ct.intro Try.func64 rfl rfl ?_
  all_goals refine awp_seq (awp_region (id := 0) ?_)
  all_goals refine awpOps_cons (op_as rfl (Conv.of rfl) rfl) ?_
  all_goals refine awpOps_nil ?_
  all_goals refine awp_seq (awp_region (id := 1) ?_)
  all_goals refine awpOps_cons (op_mv rfl (Conv.of rfl) rfl) ?_
  refine awpOps_callO [(0, .cell r)] rfl fb95 (.cons rfl (Conv.of rfl) (.nil _)) hch (olsk rfl ols0) (oksk obOk_cell oks0) (argOb rfl rfl rfl argO0) rfl ?_
  rintro r_ h' ⟨rfl, rfl⟩
  refine ⟨[(0, .cell r1), (2, .arr c)], rfl, fun o ho => ?_, fun o ho h1 => ?_, oksk obOk_cell (oksk obOk_arr oks0), fun o ho => ?_, ?_⟩
  · have : o = 0 := by simpa [keys, lk0] using ho
    subst this; rfl
  · by_cases e0 : o = 0
    · subst e0; cases h1
    · have : o = 2 := by simpa [keys, lk0, e0] using ho
      subst this; rfl
  · have : o = 2 := by simpa using (show o ∈ [2] from ho)
    subst this; rfl
  all_goals refine awpOps_cons (op_as rfl (Conv.of rfl) rfl) ?_
  all_goals refine awpOps_nil ?_
  all_goals refine awp_seq (awp_seq (awp_region (id := 2) ?_))
  all_goals refine awpOps_cons (op_mv rfl (Conv.of rfl) rfl) ?_
  all_goals refine awpOps_cons (op_callO fb33 (.cons rfl (Conv.of rfl) (.cons rfl (Conv.of rfl) (.nil _))) (pick_ct r1 16 (by unfold Far at hf1; omega)) (olsk rfl ols0) (oksk (by exact obOk_cell) oks0) (oksk (by exact obOk_cell) oks0) rfl (argOb rfl rfl rfl (argOk' rfl rfl argO0)) (fun o ho => by cases ho) rfl) ?_
  all_goals refine awpOps_nil ?_
  refine awp_to (s' := mkSt 50 [(3, .v (offAt c r1).1), (0, .box 0 (IsLens.whole Rd))] [(0, .cell (offAt c r1).2)]) ?_ ?_
  · refine awp_block ?_
    all_goals refine awp_seq (awp_region (id := 3) ?_)
    all_goals refine awpOps_cons (op_eql rfl rfl rfl) ?_
    all_goals refine awpOps_cons (op_as rfl (Conv.of rfl) rfl) ?_
    all_goals refine awpOps_nil ?_
    refine awp_cond rfl (fun h => ?_) (fun h => ?_)
    · have hk := of_decide_eq_true h
      rw [show offAt c r1 = (c ++ [⟨pk (nx r1 1) 4, (anyPayF (nx (nx r1 1) 1)).1⟩], (anyPayF (nx (nx r1 1) 1)).2) by unfold offAt; rw [if_pos hk, e2]]
      all_goals refine awp_region (id := 4) ?_
      all_goals refine awpOps_cons (op_mv rfl (Conv.of rfl) rfl) ?_
      all_goals refine awpOps_cons (op_mv rfl (Conv.of rfl) rfl) ?_
      all_goals refine awpOps_cons (op_callO fb33 (.cons rfl (Conv.of rfl) (.cons rfl (Conv.of rfl) (.nil _))) (pick_ct (nx r1 1) 4 (by unfold Far at hf2; omega)) (olsk rfl ols0) (oksk (by exact obOk_cell) oks0) (oksk (by exact obOk_cell) oks0) rfl (argOb rfl rfl rfl (argOk' rfl rfl argO0)) (fun o ho => by cases ho) rfl) ?_
      all_goals refine awpOps_cons (op_mv rfl (Conv.of rfl) rfl) ?_
      all_goals refine awpOps_cons (op_callO fb96 (.cons rfl (Conv.of rfl) (.nil _)) (anyPay_ct (nx (nx r1 1) 1) (hf3.weak (by omega))) (olsk rfl ols0) (oksk (by exact obOk_cell) oks0) (oksk (by exact obOk_cell) oks0) rfl (argOb rfl rfl rfl argO0) (fun o ho => by cases ho) rfl) ?_
      all_goals refine awpOps_cons (op_build (.cons f38_0 rfl (Conv.of rfl) (.cons f38_1 rfl (Conv.of rfl) (.nil _))) z38 rfl pl38 rfl) ?_
      all_goals refine awpOps_cons (op_bsl sl26 z38 (.cons rfl (Conv.of rfl) (.nil _)) rfl (by decide) rfl) ?_
      all_goals refine awpOps_cons (op_apA (o' := 3) sl26 z38 ul26 rfl rfl rfl rfl (by simp) (by (simp; omega)) (by (simp; omega)) rfl) ?_
      all_goals refine awpOps_cons (op_as rfl (Conv.of rfl) rfl) ?_
      all_goals refine awpOps_nil ?_
      repeat first | refine nx_seq ?_ | refine nx_block ?_
      exact Le.trans (Le.mk rfl (tlb rfl rfl rfl (tlb rfl rfl rfl tln)) (olk rfl (by exact obOk_arr) (olk rfl (by exact obOk_cell) oln)) (hS_sub (a := [(0, .cell r)]) rfl)) (Le.frz (o := 3) (t := 3) (by show _ ≤ 4611686018427387904; simp; omega) (hS_sub rfl) rfl rfl (oblk obOk_cell obl0))
    · have hk := of_decide_eq_false h
      all_goals refine awp_seq (awp_region (id := 5) ?_)
      all_goals refine awpOps_cons (op_eql rfl rfl rfl) ?_
      all_goals refine awpOps_cons (op_as rfl (Conv.of rfl) rfl) ?_
      all_goals refine awpOps_nil ?_
      refine awp_cond rfl (fun h2 => ?_) (fun h2 => ?_)
      · have hk2 := of_decide_eq_true h2
        all_goals refine awp_seq (awp_region (id := 6) ?_)
        all_goals refine awpOps_cons (op_mv rfl (Conv.of rfl) rfl) ?_
        all_goals refine awpOps_cons (op_lenA sl26 rfl rfl rfl) ?_
        all_goals refine awpOps_cons (op_gtr rfl rfl rfl) ?_
        all_goals refine awpOps_nil ?_
        refine awp_cond rfl (fun h3 => ?_) (fun h3 => ?_)
        · have hpos : 0 < c.length := by have := of_decide_eq_true h3; omega
          have hlt := bc.2 (by omega)
          rw [show offAt c r1 = (c.set (pk (nx r1 1) c.length).toNat { c.getD (pk (nx r1 1) c.length).toNat Itm.zero with epoch := gi [0, 30, 31] (pk (nx (nx r1 1) 1) 3) }, nx (nx (nx r1 1) 1) 1) by unfold offAt; rw [if_neg hk, if_pos hk2, if_pos hpos, e3, e2]]
          all_goals refine awp_region (id := 7) ?_
          all_goals refine awpOps_cons (op_mv rfl (Conv.of rfl) rfl) ?_
          all_goals refine awpOps_cons (op_mv rfl (Conv.of rfl) rfl) ?_
          all_goals refine awpOps_cons (op_mv rfl (Conv.of rfl) rfl) ?_
          all_goals refine awpOps_cons (op_lenA sl26 rfl rfl rfl) ?_
          all_goals refine awpOps_cons (op_callO fb33 (.cons rfl (Conv.of rfl) (.cons rfl (Conv.of rfl) (.nil _))) (pick_ct (nx r1 1) (c.length : Int) (by unfold Far at hf2; omega)) (olsk rfl ols0) (oksk (by exact obOk_cell) oks0) (oksk (by exact obOk_cell) oks0) rfl (argOb rfl rfl rfl (argOk' rfl rfl argO0)) (fun o ho => by cases ho) rfl) ?_
          all_goals refine awpOps_cons (op_bsl sl52 z3 (.cons rfl (Conv.of rfl) (.cons rfl (Conv.of rfl) (.cons rfl (Conv.of rfl) (.nil _)))) rfl (by decide) rfl) ?_
          all_goals refine awpOps_cons (op_mv rfl (Conv.of rfl) rfl) ?_
          all_goals refine awpOps_cons (op_callO fb33 (.cons rfl (Conv.of rfl) (.cons rfl (Conv.of rfl) (.nil _))) (pick_ct (nx (nx r1 1) 1) 3 (by unfold Far at hf3; omega)) (olsk rfl ols0) (oksk (by exact obOk_cell) oks0) (oksk (by exact obOk_cell) oks0) rfl (argOb rfl rfl rfl (argOk' rfl rfl argO0)) (fun o ho => by cases ho) rfl) ?_
          all_goals refine awpOps_cons (op_ix sl52 rfl rfl rfl b3.1 g3) ?_
          all_goals refine awpOps_cons (op_ldr ty3 rfl rfl) ?_
          all_goals refine awpOps_cons (op_ixA sl26 rfl rfl rfl rfl ⟨bc.1, by omega⟩) ?_
          all_goals refine awpOps_cons (op_fae f38_0 rfl rfl) ?_
          all_goals refine awpOps_cons (op_ste ty3 rfl rfl (Conv.of rfl) rfl (hx hpos)) ?_
          all_goals refine awpOps_nil ?_
          repeat first | refine nx_seq ?_ | refine nx_block ?_
          exact Le.trans (Le.mk rfl (tlb rfl rfl rfl (tlb rfl rfl rfl tln)) (olk rfl (by exact obOk_arr) (olk rfl (by exact obOk_cell) oln)) (hS_sub (a := [(0, .cell r)]) rfl)) (Le.frz (o := 2) (t := 3) (by show _ ≤ 4611686018427387904; simp; omega) (hS_sub rfl) rfl rfl (oblk obOk_cell obl0))
        · have hpos : ¬ 0 < c.length := by have := of_decide_eq_false h3; omega
          rw [show offAt c r1 = (c, nx r1 1) by unfold offAt; rw [if_neg hk, if_pos hk2, if_neg hpos]]
          refine awp_skip ?_
          repeat first | refine nx_seq ?_ | refine nx_block ?_
          exact Le.trans (Le.mk rfl (tlb rfl rfl rfl (tlb rfl rfl rfl tln)) (olk rfl (by exact obOk_arr) (olk rfl (by exact obOk_cell) oln)) (hS_sub (a := [(0, .cell r)]) rfl)) (Le.frz (o := 2) (t := 3) (by show _ ≤ 4611686018427387904; omega) (hS_sub rfl) rfl rfl (oblk obOk_cell obl0))
      · have hk2 := of_decide_eq_false h2
        all_goals refine awp_seq (awp_region (id := 8) ?_)
        all_goals refine awpOps_cons (op_eql rfl rfl rfl) ?_
        all_goals refine awpOps_cons (op_as rfl (Conv.of rfl) rfl) ?_
        all_goals refine awpOps_nil ?_
        refine awp_cond rfl (fun h3 => ?_) (fun h3 => ?_)
        · have hk3 := of_decide_eq_true h3
          all_goals refine awp_seq (awp_region (id := 9) ?_)
          all_goals refine awpOps_cons (op_mv rfl (Conv.of rfl) rfl) ?_
          all_goals refine awpOps_cons (op_lenA sl26 rfl rfl rfl) ?_
          all_goals refine awpOps_cons (op_gtr rfl rfl rfl) ?_
          all_goals refine awpOps_nil ?_
          refine awp_cond rfl (fun h4 => ?_) (fun h4 => ?_)
          · have hpos : 0 < c.length := by have := of_decide_eq_true h4; omega
            have hlt := bc.2 (by omega)
            rw [show offAt c r1 = (c.set (pk (nx r1 1) c.length).toNat { c.getD (pk (nx r1 1) c.length).toNat Itm.zero with pay := (anyPayF (nx (nx r1 1) 1)).1 }, (anyPayF (nx (nx r1 1) 1)).2) by unfold offAt; rw [if_neg hk, if_neg hk2, if_pos hk3, if_pos hpos, e2]]
            all_goals refine awp_region (id := 10) ?_
            all_goals refine awpOps_cons (op_mv rfl (Conv.of rfl) rfl) ?_
            all_goals refine awpOps_cons (op_mv rfl (Conv.of rfl) rfl) ?_
            all_goals refine awpOps_cons (op_mv rfl (Conv.of rfl) rfl) ?_
            all_goals refine awpOps_cons (op_lenA sl26 rfl rfl rfl) ?_
            all_goals refine awpOps_cons (op_callO fb33 (.cons rfl (Conv.of rfl) (.cons rfl (Conv.of rfl) (.nil _))) (pick_ct (nx r1 1) (c.length : Int) (by unfold Far at hf2; omega)) (olsk rfl ols0) (oksk (by exact obOk_cell) oks0) (oksk (by exact obOk_cell) oks0) rfl (argOb rfl rfl rfl (argOk' rfl rfl argO0)) (fun o ho => by cases ho) rfl) ?_
            all_goals refine awpOps_cons (op_mv rfl (Conv.of rfl) rfl) ?_
            all_goals refine awpOps_cons (op_callO fb96 (.cons rfl (Conv.of rfl) (.nil _)) (anyPay_ct (nx (nx r1 1) 1) (hf3.weak (by omega))) (olsk rfl ols0) (oksk (by exact obOk_cell) oks0) (oksk (by exact obOk_cell) oks0) rfl (argOb rfl rfl rfl argO0) (fun o ho => by cases ho) rfl) ?_
            all_goals refine awpOps_cons (op_ixA sl26 rfl rfl rfl rfl ⟨bc.1, by omega⟩) ?_
            all_goals refine awpOps_cons (op_fae f38_1 rfl rfl) ?_
            all_goals refine awpOps_cons (op_ste ty36 rfl rfl (Conv.of rfl) rfl (hx hpos)) ?_
            all_goals refine awpOps_nil ?_
            repeat first | refine nx_seq ?_ | refine nx_block ?_
            exact Le.trans (Le.mk rfl (tlb rfl rfl rfl (tlb rfl rfl rfl tln)) (olk rfl (by exact obOk_arr) (olk rfl (by exact obOk_cell) oln)) (hS_sub (a := [(0, .cell r)]) rfl)) (Le.frz (o := 2) (t := 3) (by show _ ≤ 4611686018427387904; simp; omega) (hS_sub rfl) rfl rfl (oblk obOk_cell obl0))
          · have hpos : ¬ 0 < c.length := by have := of_decide_eq_false h4; omega
            rw [show offAt c r1 = (c, nx r1 1) by unfold offAt; rw [if_neg hk, if_neg hk2, if_pos hk3, if_neg hpos]]
            refine awp_skip ?_
            repeat first | refine nx_seq ?_ | refine nx_block ?_
            exact Le.trans (Le.mk rfl (tlb rfl rfl rfl (tlb rfl rfl rfl tln)) (olk rfl (by exact obOk_arr) (olk rfl (by exact obOk_cell) oln)) (hS_sub (a := [(0, .cell r)]) rfl)) (Le.frz (o := 2) (t := 3) (by show _ ≤ 4611686018427387904; omega) (hS_sub rfl) rfl rfl (oblk obOk_cell obl0))
        · have hk3 := of_decide_eq_false h3
          rw [show offAt c r1 = (c, nx r1 1) by unfold offAt; rw [if_neg hk, if_neg hk2, if_neg hk3]]
          refine awp_skip ?_
          repeat first | refine nx_seq ?_ | refine nx_block ?_
          exact Le.trans (Le.mk rfl (tlb rfl rfl rfl (tlb rfl rfl rfl tln)) (olk rfl (by exact obOk_arr) (olk rfl (by exact obOk_cell) oln)) (hS_sub (a := [(0, .cell r)]) rfl)) (Le.frz (o := 2) (t := 3) (by show _ ≤ 4611686018427387904; omega) (hS_sub rfl) rfl rfl (oblk obOk_cell obl0))
  · all_goals refine awp_seq (awp_region (id := 11) ?_)
    all_goals refine awpOps_cons (op_mv rfl (Conv.of rfl) rfl) ?_
    all_goals refine awpOps_cons (op_as rfl (Conv.of rfl) rfl) ?_
    all_goals refine awpOps_nil ?_
    refine awp_ret ?_
    repeat first | refine rt_seq ?_ | refine rt_block ?_
    exact finO1 [(0, .cell (offAt c r1).2)] (.v rfl (Conv.of rfl)) (fun o ho => by cases ho) (olk rfl obOk_cell oln) (hS_keys rfl) rfl
set_option maxHeartbeats 4000000 in
theorem voteD_ct (r : Rd) (hp : Far 600000 r) : CtO Try.prog 32 [.box 0 (IsLens.whole Rd)] [(0, .cell r)] (.v (voteDF r).1) [(0, .cell (voteDF r).2)] := by
  have b4 := pk_bd hp (by omega) 4
  have c4 := b4.2 (by omega)
  have hf1 : Far 600001 (nx r 1) := hp.nx (by omega) (by omega)
  have hoc := off_ct (nx r 1) (hf1.weak (by omega))
  have hlen := off_len hf1 (by omega)
  have hf2 := off_far (m' := 600041) hf1 (by omega) (by omega)
  unfold voteDF
  generalize offF (nx r 1) = cr at hoc hlen hf2 ⊢
  obtain ⟨c, r2⟩ := cr
  simp only at hoc hlen hf2 ⊢
  have hcp := voteC_p c r2
  have hf3 : Far 600046 (voteC c r2).2 := by unfold Far at hf2 ⊢; omega
  refine Ct.intro Try.func32 rfl rfl ?_
  all_goals refine awp_seq (awp_region (id := 0) ?_)
  all_goals refine awpOps_cons (op_alloc (o := 2) z28 rfl rfl) ?_
  all_goals refine awpOps_nil ?_
  all_goals refine awp_seq (awp_region (id := 1) ?_)
  all_goals refine awpOps_cons (op_mv rfl (Conv.of rfl) rfl) ?_
  all_goals refine awpOps_cons (op_callO fb33 (.cons rfl (Conv.of rfl) (.cons rfl (Conv.of rfl) (.nil _))) (pick_ct r 4 (by unfold Far at hp; omega)) (olsk rfl ols0) (oksk (by exact obOk_cell) oks0) (oksk (by exact obOk_cell) oks0) rfl (argOb rfl rfl rfl (argOk' rfl rfl argO0)) (fun o ho => by cases ho) rfl) ?_
  all_goals refine awpOps_cons (op_add rfl rfl rfl (by omega)) ?_
  all_goals refine awpOps_cons (op_mv rfl (Conv.of rfl) rfl) ?_
  all_goals refine awpOps_cons (op_callO fb64 (.cons rfl (Conv.of rfl) (.nil _)) (hoc) (olsk rfl ols0) (oksk (by exact obOk_cell) oks0) (oksk (by exact obOk_cell) oks0) rfl (argOb rfl rfl rfl argO0) (fun o ho => by cases ho) rfl) ?_
  all_goals refine awpOps_cons (op_build (.cons f28_0 rfl (Conv.of rfl) (.cons f28_1 rfl (Conv.of rfl) (.nil _))) z28 rfl pl28 rfl) ?_
  all_goals refine awpOps_cons (op_alloc (o := 3) z28 rfl rfl) ?_
  all_goals refine awpOps_cons (op_st ty28 rfl rfl (Conv.of rfl) rfl) ?_
  all_goals refine awpOps_nil ?_
  refine awp_seq_to (s' := mkSt 37 [(0, .box 0 (IsLens.whole Rd)), (2, .box 2 (IsLens.whole Vote)), (3, .box 3 (IsLens.whole Vote))] [(0, .cell (voteC c r2).2), (2, .cell Vote.zero), (3, .cell (Vote.mk (1 + pk r 4) (voteC c r2).1))]) ?_ ?_
  · have g2 : Far 600042 (nx r2 1) := hf2.nx (by omega) (by omega)
    have g3 : Far 600043 (nx (nx r2 1) 1) := g2.nx (by omega) (by omega)
    have d3 := pk_bd g2 (by omega) 3
    have f3 := d3.2 (by omega)
    have e2 : nx (nx r2 1) 1 = nx r2 2 := nx_nx r2 1 1
    have e5 : nx (nx (nx r2 1) 1) 3 = nx r2 5 := by rw [e2]; exact nx_nx r2 2 3
    all_goals refine awp_seq (awp_region (id := 2) ?_)
    all_goals refine awpOps_cons (op_fab f28_1 rfl rfl) ?_
    all_goals refine awpOps_cons (op_ld ty26 rfl rfl rfl) ?_
    all_goals refine awpOps_cons (op_len sl26 rfl rfl) ?_
    all_goals refine awpOps_cons (op_eql rfl rfl rfl) ?_
    all_goals refine awpOps_cons (op_mv rfl (Conv.of rfl) rfl) ?_
    all_goals refine g_split (t := 14) rfl (fun h => ?_) (fun h => ?_)
    all_goals first | refine awpOps_cons (g_off rfl rfl rfl rfl rfl) ?_ | refine awpOps_cons (g_on rfl rfl rfl (op_mv rfl (Conv.of rfl) rfl)) ?_
    all_goals first | refine awpOps_cons (g_off rfl rfl rfl rfl rfl) ?_ | refine awpOps_cons (g_on rfl rfl rfl (op_callO fb33 (.cons rfl (Conv.of rfl) (.cons rfl (Conv.of rfl) (.nil _))) (pick_ct r2 4 (by unfold Far at hf2; omega)) (olsk rfl ols0) (oksk (by exact obOk_cell) oks0) (oksk (by exact obOk_cell) oks0) rfl (argOb rfl rfl rfl (argOk' rfl rfl argO0)) (fun o ho => by cases ho) rfl)) ?_
    all_goals first | refine awpOps_cons (g_off rfl rfl rfl rfl rfl) ?_ | refine awpOps_cons (g_on rfl rfl rfl (op_gtr rfl rfl rfl)) ?_
    all_goals refine awpOps_cons (op_pick rfl rfl rfl rfl) ?_
    all_goals refine awpOps_nil ?_
    · have hz : c.length = 0 := by have h' : ((c.length : Nat) : Int) = 0 := of_decide_eq_true h; omega
      refine awp_cond rfl (fun h2 => ?_) (fun h2 => ?_)
      · have hk := of_decide_eq_true h2
        rw [show voteC c r2 = ([⟨1 + pk (nx r2 1) 3, payV (nx (nx r2 1) 1)⟩], nx (nx (nx r2 1) 1) 3) by unfold voteC; rw [if_pos hz, if_pos hk, e5, e2]]
        all_goals refine awp_region (id := 3) ?_
        all_goals refine awpOps_cons (op_mv rfl (Conv.of rfl) rfl) ?_
        all_goals refine awpOps_cons (op_callO fb33 (.cons rfl (Conv.of rfl) (.cons rfl (Conv.of rfl) (.nil _))) (pick_ct (nx r2 1) 3 (by unfold Far at g2; omega)) (olsk rfl ols0) (oksk (by exact obOk_cell) oks0) (oksk (by exact obOk_cell) oks0) rfl (argOb rfl rfl rfl (argOk' rfl rfl argO0)) (fun o ho => by cases ho) rfl) ?_
        all_goals refine awpOps_cons (op_add rfl rfl rfl (by omega)) ?_
        all_goals refine awpOps_cons (op_mv rfl (Conv.of rfl) rfl) ?_
        all_goals refine awpOps_cons (op_callO fb38 (.cons rfl (Conv.of rfl) (.nil _)) (l71Pay_ct (nx (nx r2 1) 1) (g3.weak (by omega))) (olsk rfl ols0) (oksk (by exact obOk_cell) oks0) (oksk (by exact obOk_cell) oks0) rfl (argOb rfl rfl rfl argO0) (fun o ho => by cases ho) rfl) ?_
        all_goals refine awpOps_cons (op_build (.cons f38_0 rfl (Conv.of rfl) (.cons f38_1 rfl (Conv.of rfl) (.nil _))) z38 rfl pl38 rfl) ?_
        all_goals refine awpOps_cons (op_bsl sl26 z38 (.cons rfl (Conv.of rfl) (.nil _)) rfl (by decide) rfl) ?_
        all_goals refine awpOps_cons (op_fab f28_1 rfl rfl) ?_
        all_goals refine awpOps_cons (op_st ty26 rfl rfl (Conv.ol) rfl) ?_
        all_goals refine awpOps_nil ?_
        repeat first | refine nx_seq ?_ | refine nx_block ?_
        exact Le.mk rfl (tlb rfl rfl rfl (tlb rfl rfl rfl (tlb rfl rfl rfl tln))) (olk rfl (by exact obOk_cell) (olk rfl (by exact obOk_cell) (olk rfl (by exact obOk_cell) oln))) (hS_sub (a := [(0, .cell r)]) rfl)
      · have hk := of_decide_eq_false h2
        rw [show voteC c r2 = (c, nx r2 1) by unfold voteC; rw [if_pos hz, if_neg hk]]
        refine awp_skip ?_
        repeat first | refine nx_seq ?_ | refine nx_block ?_
        exact Le.mk rfl (tlb rfl rfl rfl (tlb rfl rfl rfl (tlb rfl rfl rfl tln))) (olk rfl (by exact obOk_cell) (olk rfl (by exact obOk_cell) (olk rfl (by exact obOk_cell) oln))) (hS_sub (a := [(0, .cell r)]) rfl)
    · have hz : ¬ c.length = 0 := by have h' : ¬ ((c.length : Nat) : Int) = 0 := of_decide_eq_false h; omega
      rw [show voteC c r2 = (c, r2) by unfold voteC; rw [if_neg hz]]
      refine awp_cond rfl (fun h2 => absurd h2 (by decide)) (fun h2 => ?_)
      refine awp_skip ?_
      repeat first | refine nx_seq ?_ | refine nx_block ?_
      exact Le.mk rfl (tlb rfl rfl rfl (tlb rfl rfl rfl (tlb rfl rfl rfl tln))) (olk rfl (by exact obOk_cell) (olk rfl (by exact obOk_cell) (olk rfl (by exact obOk_cell) oln))) (hS_sub (a := [(0, .cell r)]) rfl)
  · generalize voteC c r2 = cr at hf3 ⊢
    obtain ⟨c2, r3⟩ := cr
    simp only at hf3 ⊢
    have hf4 : Far 600047 (nx r3 1) := hf3.nx (by omega) (by omega)
    have d2 := pk_bd hf4 (by omega) 2
    have f2 := d2.2 (by omega)
    have g2 := gi_get (l := [0, 5]) d2.1 (by simp; omega)
    have e2 : nx (nx r3 1) 1 = nx r3 2 := nx_nx r3 1 1
    refine awp_seq_to (s' := mkSt 37 [(0, .box 0 (IsLens.whole Rd)), (2, .box 2 (IsLens.whole Vote)), (3, .box 3 (IsLens.whole Vote))] [(0, .cell (voteB (1 + pk r 4) r3).2), (2, .cell Vote.zero), (3, .cell (Vote.mk (voteB (1 + pk r 4) r3).1 c2))]) ?_ ?_
    · all_goals refine awp_seq (awp_region (id := 4) ?_)
      all_goals refine awpOps_cons (op_mv rfl (Conv.of rfl) rfl) ?_
      all_goals refine awpOps_cons (op_callO fb33 (.cons rfl (Conv.of rfl) (.cons rfl (Conv.of rfl) (.nil _))) (pick_ct r3 16 (by unfold Far at hf3; omega)) (olsk rfl ols0) (oksk (by exact obOk_cell) oks0) (oksk (by exact obOk_cell) oks0) rfl (argOb rfl rfl rfl (argOk' rfl rfl argO0)) (fun o ho => by cases ho) rfl) ?_
      all_goals refine awpOps_cons (op_eql rfl rfl rfl) ?_
      all_goals refine awpOps_nil ?_
      refine awp_cond rfl (fun h2 => ?_) (fun h2 => ?_)
      · have hk := of_decide_eq_true h2
        rw [show voteB (1 + pk r 4) r3 = (gi [0, 5] (pk (nx r3 1) 2), nx (nx r3 1) 1) by unfold voteB; rw [if_pos hk, e2]]
        all_goals refine awp_region (id := 5) ?_
        all_goals refine awpOps_cons (op_bsl sl52 z3 (.cons rfl (Conv.of rfl) (.cons rfl (Conv.of rfl) (.nil _))) rfl (by decide) rfl) ?_
        all_goals refine awpOps_cons (op_mv rfl (Conv.of rfl) rfl) ?_
        all_goals refine awpOps_cons (op_callO fb33 (.cons rfl (Conv.of rfl) (.cons rfl (Conv.of rfl) (.nil _))) (pick_ct (nx r3 1) 2 (by unfold Far at hf4; omega)) (olsk rfl ols0) (oksk (by exact obOk_cell) oks0) (oksk (by exact obOk_cell) oks0) rfl (argOb rfl rfl rfl (argOk' rfl rfl argO0)) (fun o ho => by cases ho) rfl) ?_
        all_goals refine awpOps_cons (op_ix sl52 rfl rfl rfl d2.1 g2) ?_
        all_goals refine awpOps_cons (op_ldr ty3 rfl rfl) ?_
        all_goals refine awpOps_cons (op_fab f28_0 rfl rfl) ?_
        all_goals refine awpOps_cons (op_st ty3 rfl rfl (Conv.of rfl) rfl) ?_
        all_goals refine awpOps_nil ?_
        repeat first | refine nx_seq ?_ | refine nx_block ?_
        exact Le.mk rfl (tlb rfl rfl rfl (tlb rfl rfl rfl (tlb rfl rfl rfl tln))) (olk rfl (by exact obOk_cell) (olk rfl (by exact obOk_cell) (olk rfl (by exact obOk_cell) oln))) (hS_sub (a := [(0, .cell r)]) rfl)
      · have hk := of_decide_eq_false h2
        rw [show voteB (1 + pk r 4) r3 = (1 + pk r 4, nx r3 1) by unfold voteB; rw [if_neg hk]]
        refine awp_skip ?_
        repeat first | refine nx_seq ?_ | refine nx_block ?_
        exact Le.mk rfl (tlb rfl rfl rfl (tlb rfl rfl rfl (tlb rfl rfl rfl tln))) (olk rfl (by exact obOk_cell) (olk rfl (by exact obOk_cell) (olk rfl (by exact obOk_cell) oln))) (hS_sub (a := [(0, .cell r)]) rfl)
    · all_goals refine awp_seq (awp_region (id := 6) ?_)
      all_goals refine awpOps_cons (op_ld ty28 rfl rfl rfl) ?_
      all_goals refine awpOps_cons (op_st ty28 rfl rfl (Conv.of rfl) rfl) ?_
      all_goals refine awpOps_nil ?_
      refine awp_ret ?_
      repeat first | refine rt_seq ?_ | refine rt_block ?_
      exact finO1 [(0, .cell (voteB (1 + pk r 4) r3).2)] (.rc ty28 rfl rfl) (fun o ho => by cases ho) (olk rfl obOk_cell oln) (hS_keys rfl) rfl
end Go.Proofs.Ytmabpmlcclgecaa

/- The reference: draws of events in a plain world. -/
set_option linter.unusedVariables false
set_option linter.unusedSimpArgs false
namespace Go.Proofs.Ytmabpmlcclgecaa
open Go Go.Wt
end Go.Proofs.Ytmabpmlcclgecaa

/- The reference: drawn worlds, and what happens in them. -/
set_option linter.unusedVariables false
set_option linter.unusedSimpArgs false
namespace Go.Proofs.Ytmabpmlcclgecaa
open Go Go.Wt
end Go.Proofs.Ytmabpmlcclgecaa

/- The reference: a drawn world and an event; a drawn world and payments. -/
set_option linter.unusedVariables false
set_option linter.unusedSimpArgs false
namespace Go.Proofs.Ytmabpmlcclgecaa
open Go Go.Wt
end Go.Proofs.Ytmabpmlcclgecaa

/- The laws' own words: the same chains, votes, nodes, worlds. -/
set_option linter.unusedVariables false
set_option linter.unusedSimpArgs false
namespace Go.Proofs.Ytmabpmlcclgecaa
open Go Go.Wt
end Go.Proofs.Ytmabpmlcclgecaa

/- From a call's contract to the given row: slices of bytes that come in. -/
set_option linter.unusedVariables false
namespace Go.Wt
open Go Go.ChangeShapes Go.WideShapes Go.RowKit
/-- A slice of bytes that came in. -/
def IsRow (w : World) (a : Option Addr) (len cap : Nat) (zs : List Int) : Prop :=
  (a = none ∧ len = 0 ∧ cap = 0 ∧ zs = []) ∨
  ∃ x, a = some x ∧ len ≤ cap ∧ zs.length = cap ∧ (∀ i, i < zs.length → w.cell? (x.add i) = some (.int .u8 (zs.getD i 0))) ∧ ∀ n ∈ zs, (Lit.int .u8 n).wf = true
def G0 : Gh := ⟨fun _ _ => none, fun _ => none⟩
def codeOf (zs : List Int) (len : Nat) : List UInt8 := (zs.take len).map fun z => UInt8.ofNat z.toNat
theorem codeOf_rd {w : World} {a : Option Addr} {len cap : Nat} {zs : List Int} {ω : Owner} (h : IsRow w a len cap zs) (y : len ≤ 140737488351232) : RelV G0 w ω (.v (codeOf zs len)) (.slice a len cap) := by
  refine ⟨[.slice a len cap], ?_, rfl⟩
  rcases h with ⟨rfl, rfl, rfl, rfl⟩ | ⟨x, rfl, hl, hz, hc, hw⟩
  · exact ⟨none, 0, rfl, Nat.le_refl _, .inl rfl⟩
  · have hlen : (codeOf zs len).length = len := by simp [codeOf]; omega
    refine ⟨some x, cap, by rw [hlen], by rw [hlen]; exact hl, ?_⟩
    by_cases h0 : len = 0
    · left; exact List.eq_nil_of_length_eq_zero (by omega)
    · right
      obtain ⟨b, off, spot⟩ := x
      have h1 := hc 0 (by omega)
      have hsp : spot = none := by
        cases spot with
        | none => rfl
        | some s =>
          exfalso
          simp only [Addr.add, if_true, World.cell?] at h1
          split at h1 <;> simp at h1
      subst hsp
      refine ⟨b, off, rfl, by rw [hlen]; show len ≤ 4611686018427387904; omega, fun i u hu => ?_⟩
      have hi : i < len := by have := getElem?_lt hu; omega
      have hiz : i < zs.length := by omega
      have hu' : u = UInt8.ofNat (zs.getD i 0).toNat := by
        unfold codeOf at hu
        rw [List.getElem?_map, List.getElem?_take, if_pos hi, List.getElem?_eq_getElem hiz] at hu
        simp at hu
        rw [← hu, List.getD_eq_getElem?_getD, List.getElem?_eq_getElem hiz]; rfl
      have hwf := hw (zs.getD i 0) (by
        rw [List.getD_eq_getElem?_getD, List.getElem?_eq_getElem hiz]; exact List.getElem_mem hiz)
      have hn : ((u.toNat : Nat) : Int) = zs.getD i 0 := by
        have hb : 0 ≤ zs.getD i 0 ∧ zs.getD i 0 < 256 := by
          have hh : 0 ≤ zs.getD i 0 ∧ zs.getD i 0 ≤ 255 := by simpa [Lit.wf, IntKind.min, IntKind.max, IntKind.signed, IntKind.bits] using hwf
          omega
        rw [hu']
        have : (UInt8.ofNat (zs.getD i 0).toNat).toNat = (zs.getD i 0).toNat := by
          rw [UInt8.toNat_ofNat']; omega
        rw [this]; omega
      refine ⟨[.int .u8 u.toNat], rfl, fun j v hj => ?_⟩
      have hj0 : j = 0 := by
        have := getElem?_lt hj
        simp at this; exact this
      subst hj0
      simp at hj
      subst hj
      refine ⟨rfl, ?_⟩
      have h2 := hc i hiz
      have e : (⟨b, off, none⟩ : Addr).add i = ⟨b, off + i, none⟩ := add_lit b off i
      rw [e] at h2
      show cl w b (off + i * 1 + 0) = _
      rw [Nat.mul_one, Nat.add_zero]
      show w.cell? ⟨b, off + i, none⟩ = _
      rw [h2, hn]
theorem keep_below {S : Nat → Prop} {w w' : World} {G' : Gh} (h : Keep S G0 w G' w') : Below w.heap.size w w' :=
  ⟨h.os, h.tape, h.output, h.size, fun k hk => h.block k hk fun _ _ _ => .inl rfl⟩
theorem row_bool {P : Program} {f : FuncId} {args : List AV} {vs : List Value} {w : World} (h : CtP P f args (.v true)) (hr : RelAs G0 w 0 args vs) :
    Calls P f vs.toArray w fun e w' => e = .returned (.bool true) ∧ Below w.heap.size w w' :=
  (h G0 w vs hr fun o => rfl).mono fun e w' ⟨r, h', v, G', e1, ⟨e2, e3⟩, e4, e5, e6⟩ => by
    subst e2
    exact ⟨by rw [e1, RelV.bool e4], keep_below e6⟩
theorem row1 {P : Program} {f : FuncId} (h : ∀ code : List UInt8, CtP P f [.v code] (.v true)) {a : Option Addr} {len cap : Nat} {zs : List Int} (w : World) (hr : IsRow w a len cap zs) (y : len ≤ 140737488351232) :
    Calls P f #[.slice a len cap] w fun e w' => e = .returned (.bool true) ∧ Below w.heap.size w w' :=
  row_bool (vs := [_]) (h (codeOf zs len)) ⟨_, _, rfl, codeOf_rd hr y, rfl⟩
/-- What came in is read. -/
theorem rowOf {H : Type} {enc : TypeId × Value → H} {P : Program} {W : World} {base : Nat} {spare : Nat → Bool} {held : Bool} {t e : TypeId} {a : Option Addr} {len cap : Nat} {d : DataW H} {ps : List MemPlace} (hsp : ∀ b, spare b = true)
    (hu : P.underlying t = some (.slice e)) (he : P.underlying e = some (.int .u8)) (hc : P.cellsOf e = 1) (h : DataW.Trod enc P W base spare held t (.slice a len cap) d ps) : ∃ zs, IsRow W a len cap zs := by
  obtain ⟨fuel, hf⟩ := h
  rcases open_ints hu he hc hf with ⟨hcs, _⟩ | ⟨x, l, c, zs, hcs, _, hl, hm, hz, _, hcell, hwz⟩
  · simp [Value.cells] at hcs
    obtain ⟨rfl, rfl, rfl⟩ := hcs
    exact ⟨[], .inl ⟨rfl, rfl, rfl, rfl⟩⟩
  · simp [Value.cells] at hcs
    obtain ⟨rfl, rfl, rfl⟩ := hcs
    rw [if_pos (hsp _)] at hz
    exact ⟨zs, .inr ⟨_, rfl, hl, hz, hcell, hwz⟩⟩
theorem lenOf {H : Type} {enc : TypeId × Value → H} {P : Program} {W : World} {base : Nat} {spare : Nat → Bool} {held : Bool} {t e : TypeId} {a : Option Addr} {len cap : Nat} {d : DataW H} {ps : List MemPlace} {ts : List TypeId} {ds : List (DataW H)} {j : Nat}
    (hsz : (DataW.weightsEach P ts ds).all (· ≤ reachBytes) = true) (ht : ts[j]? = some t) (hd : ds[j]? = some d) (hu : P.underlying t = some (.slice e)) (he : P.underlying e = some (.int .u8)) (hc : P.cellsOf e = 1) (hB : P.bytesOf e = 1)
    (h : DataW.Trod enc P W base spare held t (.slice a len cap) d ps) : len ≤ 140737488351232 := by
  obtain ⟨fuel, hf⟩ := h
  rcases open_ints hu he hc hf with ⟨hcs, _⟩ | ⟨x, l, c, zs, hcs, _, hl, _, hz, hx, _, _⟩
  · simp [Value.cells] at hcs
    omega
  · simp [Value.cells] at hcs
    obtain ⟨rfl, rfl, rfl⟩ := hcs
    obtain ⟨hx, _⟩ := Prod.mk.inj hx
    subst hx
    have z := sized_slice hsz ht hd hu
    rw [hB] at z
    have hl2 : len ≤ zs.length := by
      rw [hz]
      split
      · exact hl
      · exact Nat.le_refl _
    simp only [lits, List.length_map, List.length_take, List.length_drop] at z
    have hr : reachBytes = 140737488351232 := rfl
    omega
end Go.Wt

/- Plays, as both have them. -/
set_option linter.unusedVariables false
set_option linter.unusedSimpArgs false
namespace Go.Proofs.Ytmabpmlcclgecaa
open Go Go.Wt
/-- A play, with its answer. -/
def playR (bad : Int) (evs : List Evt) : Wrld × Bool := if within bad 0 4 && decide (evs.length ≤ 70) then (playF bad evs, true) else (Wrld.zero, false)
end Go.Proofs.Ytmabpmlcclgecaa

/- What stays so in a world, whatever one does. -/
set_option linter.unusedVariables false
set_option linter.unusedSimpArgs false
namespace Go.Wt
/-- What stays so of a node, at place `k`. -/
structure NInv (ep bad : Int) (log : List Vote) (k : Nat) (n : Nod) : Prop where
  id : n.id = (k : Int) + 1
  ep : n.epoch = ep
  idle : n.id = bad → n.seen = []
  sub : n.id ≠ bad → ∀ v ∈ n.seen, v ∈ log
  own : n.id ≠ bad → ∀ v ∈ log, v.by_ = n.id → v ∈ n.seen
  one : ∀ u ∈ n.seen, ∀ v ∈ n.seen, u.by_ = n.id → v.by_ = n.id → lastEp u.chain = lastEp v.chain → u = v
  long : ∀ u ∈ n.seen, ∀ v ∈ n.seen, u.by_ = n.id → v.by_ = n.id → lastEp u.chain < lastEp v.chain → u.chain.length ≤ v.chain.length
  tip : ∀ v ∈ n.seen, v.by_ = n.id → v.chain.length ≤ (tipOf n.seen).length + 1
  behind : ∀ v ∈ n.seen, v.by_ = n.id → sure n.seen (v.chain.take (v.chain.length - 1)) = true
  lead : ∀ v ∈ n.seen, v.by_ = n.id → Vote.mk (leader (lastEp v.chain)) v.chain ∈ n.seen
structure Inv (w : Wrld) : Prop where
  ok : FineX w
  bad : within w.bad 0 4 = true
  nodes : ∀ (k : Nat) (n : Nod), w.nodes[k]? = some n → NInv w.epoch w.bad w.log k n
  ord : ∀ (i : Nat) (v : Vote), w.log[i]? = some v → v.by_ ≠ w.bad → Vote.mk (leader (lastEp v.chain)) v.chain ∈ w.log.take (i + 1)

/-- More votes are sent, none by this node. -/
theorem NInv.more {ep bad : Int} {log log' : List Vote} {k : Nat} {n : Nod} (h : NInv ep bad log k n) (hs : ∀ v ∈ log, v ∈ log') (ho : n.id ≠ bad → ∀ v ∈ log', v.by_ = n.id → v ∈ log) : NInv ep bad log' k n :=
  ⟨h.id, h.ep, h.idle, fun hb v hv => hs v (h.sub hb v hv), fun hb v hv hby => h.own hb v (ho hb v hv hby) hby, h.one, h.long, h.tip, h.behind, h.lead⟩
theorem NInv.see {ep bad : Int} {log : List Vote} {k : Nat} {n : Nod} {v : Vote} (h : NInv ep bad log k n) (hb : n.id ≠ bad) (hv : v ∈ log) (hby : v.by_ ≠ n.id) : NInv ep bad log k (seeF n v) := by
  unfold seeF
  split
  · exact h
  · have hm : ∀ u ∈ n.seen, u ∈ n.seen ++ [v] := fun u hu => List.mem_append_left _ hu
    have hold : ∀ u ∈ n.seen ++ [v], u.by_ = n.id → u ∈ n.seen := fun u hu hub => by
      rcases List.mem_append.1 hu with hu | hu
      · exact hu
      · simp at hu; subst hu; exact absurd hub hby
    refine ⟨h.id, h.ep, fun e => absurd e hb, fun _ u hu => ?_, fun hb' u hu hub => hm u (h.own hb' u hu hub), fun u hu u' hu' h1 h2 => h.one u (hold u hu h1) u' (hold u' hu' h2) h1 h2,
      fun u hu u' hu' h1 h2 => h.long u (hold u hu h1) u' (hold u' hu' h2) h1 h2, fun u hu h1 => ?_, fun u hu h1 => sure_mono hm (h.behind u (hold u hu h1) h1), fun u hu h1 => hm _ (h.lead u (hold u hu h1) h1)⟩
    · rcases List.mem_append.1 hu with hu | hu
      · exact h.sub hb u hu
      · simp at hu; subst hu; exact hv
    · have := h.tip u (hold u hu h1) h1
      have := tip_mono hm
      show u.chain.length ≤ (tipOf (n.seen ++ [v])).length + 1
      omega
theorem Inv.set {w : Wrld} {k : Nat} {m : Nod} (h : Inv w) (hk : k < w.nodes.length) (hm : NInv w.epoch w.bad w.log k m) (ho : nodeOk m = true) : Inv { w with nodes := w.nodes.set k m } := by
  refine ⟨setF_ok h.ok ho, h.bad, fun j n hj => ?_, h.ord⟩
  by_cases e : j = k
  · subst e
    rw [List.getElem?_set_self hk] at hj
    injection hj with hj
    subst hj
    exact hm
  · rw [List.getElem?_set_ne (Ne.symm e)] at hj
    exact h.nodes j n hj
/-- What it takes to vote for a chain. -/
structure May (n : Nod) (c : List Itm) : Prop where
  may : mayN n = true
  last : lastEp c = n.epoch
  len : c.length = (tipOf n.seen).length + 1
  sure : sure n.seen (c.take (c.length - 1)) = true
  ok : chainOk c = true
  lead : Vote.mk (leader n.epoch) c ∈ n.seen ++ [Vote.mk n.id c]
theorem voteF_yes {n : Nod} {c : List Itm} (h : n.seen.length < 80) : voteF n c = ({ n with voted := n.epoch, seen := n.seen ++ [⟨n.id, c⟩] }, ⟨n.id, c⟩, true) := by
  unfold voteF; rw [if_neg (by simpa using h)]
theorem voteF_no {n : Nod} {c : List Itm} (h : ¬ n.seen.length < 80) : voteF n c = (n, .zero, false) := by
  unfold voteF; rw [if_pos (by simp; omega)]
theorem set_self {w : Wrld} {k : Nat} {n : Nod} (hn : w.nodes[k]? = some n) : { w with nodes := w.nodes.set k n } = w := by
  have : w.nodes.set k n = w.nodes := by
    obtain ⟨h1, h2⟩ := List.getElem?_eq_some_iff.1 hn
    rw [← h2, List.set_getElem_self]
  rw [this]
theorem Inv.vote {w : Wrld} {k : Nat} {n : Nod} {c : List Itm} (h : Inv w) (hn : w.nodes[k]? = some n) (hb : n.id ≠ w.bad) (hl : w.log.length < 80) (hm : May n c) : Inv (putF w k (voteF n c)) := by
  have hN := h.nodes k n hn
  have hno := h.ok.nodes n (List.mem_of_getElem? hn)
  have hk : k < w.nodes.length := (List.getElem?_eq_some_iff.1 hn).1
  by_cases hs : n.seen.length < 80
  · have hno' := voteF_ok hno (by have := hm.len; omega) hm.ok hm.may hm.last
    rw [voteF_yes hs] at hno' ⊢
    obtain ⟨⟨g1, g2, g3, g4, g5⟩, g6⟩ := nodeOk_iff.1 hno
    have hmay := hm.may
    simp only [mayN, Bool.and_eq_true, decide_eq_true_eq, bne_iff_ne] at hmay
    have hlt : n.voted < n.epoch := by have := hmay.2; omega
    have hnew : Vote.mk n.id c ∉ n.seen := fun hh => by
      have := g6 _ hh rfl
      simp only [hm.last] at this
      omega
    have hnewL : Vote.mk n.id c ∉ w.log := fun hh => hnew (hN.own hb _ hh rfl)
    have hsend : putF w k ({ n with voted := n.epoch, seen := n.seen ++ [⟨n.id, c⟩] }, ⟨n.id, c⟩, true) = { w with nodes := w.nodes.set k { n with voted := n.epoch, seen := n.seen ++ [⟨n.id, c⟩] }, log := w.log ++ [⟨n.id, c⟩] } := by
      simp only [putF, if_true, sendF, hnewL, hl, decide_false, decide_true, Bool.not_false, Bool.and_self]
    have hfx := putF_ok (k := k) (x := ({ n with voted := n.epoch, seen := n.seen ++ [⟨n.id, c⟩] }, ⟨n.id, c⟩, true)) h.ok hno'.1 hno'.2
    rw [hsend] at hfx ⊢
    have hmS : ∀ u ∈ n.seen, u ∈ n.seen ++ [Vote.mk n.id c] := fun u hu => List.mem_append_left _ hu
    have hmL : ∀ u ∈ w.log, u ∈ w.log ++ [Vote.mk n.id c] := fun u hu => List.mem_append_left _ hu
    have htip := tip_mono hmS
    refine ⟨hfx, h.bad, fun j m hj => ?_, fun i v hi hv => ?_⟩
    · by_cases e : j = k
      · subst e
        rw [List.getElem?_set_self hk] at hj
        injection hj with hj
        subst hj
        refine ⟨hN.id, hN.ep, fun e => absurd e hb, fun _ v hv => ?_, fun _ v hv hby => ?_, fun u hu v hv hu1 hv1 he => ?_, fun u hu v hv hu1 hv1 he => ?_, fun v hv h1 => ?_, fun v hv h1 => ?_, fun v hv h1 => ?_⟩
        · rcases List.mem_append.1 hv with hv | hv
          · exact hmL v (hN.sub hb v hv)
          · exact List.mem_append_right _ hv
        · rcases List.mem_append.1 hv with hv | hv
          · exact hmS v (hN.own hb v hv hby)
          · exact List.mem_append_right _ hv
        · rcases List.mem_append.1 hu with hu | hu <;> rcases List.mem_append.1 hv with hv | hv
          · exact hN.one u hu v hv hu1 hv1 he
          · simp at hv; subst hv
            have := g6 u hu hu1
            have := hm.last
            simp only at he
            omega
          · simp at hu; subst hu
            have := g6 v hv hv1
            have := hm.last
            simp only at he
            omega
          · simp at hu hv; rw [hu, hv]
        · rcases List.mem_append.1 hu with hu | hu <;> rcases List.mem_append.1 hv with hv | hv
          · exact hN.long u hu v hv hu1 hv1 he
          · simp at hv; subst hv
            have := hN.tip u hu hu1
            have := hm.len
            show u.chain.length ≤ c.length
            omega
          · simp at hu; subst hu
            have := g6 v hv hv1
            have := hm.last
            simp only at he
            omega
          · simp at hu hv; subst hu; subst hv; exact Nat.le_refl _
        · show v.chain.length ≤ (tipOf (n.seen ++ [Vote.mk n.id c])).length + 1
          rcases List.mem_append.1 hv with hv | hv
          · have := hN.tip v hv h1
            omega
          · simp at hv; subst hv
            have := hm.len
            show c.length ≤ _
            omega
        · rcases List.mem_append.1 hv with hv | hv
          · exact sure_mono hmS (hN.behind v hv h1)
          · simp at hv; subst hv
            exact sure_mono hmS hm.sure
        · rcases List.mem_append.1 hv with hv | hv
          · exact hmS _ (hN.lead v hv h1)
          · simp at hv; subst hv
            show Vote.mk (leader (lastEp c)) c ∈ n.seen ++ [Vote.mk n.id c]
            rw [hm.last]; exact hm.lead
      · rw [List.getElem?_set_ne (Ne.symm e)] at hj
        have hM := h.nodes j m hj
        refine hM.more hmL fun _ v hv hby => ?_
        rcases List.mem_append.1 hv with hv | hv
        · exact hv
        · simp at hv; subst hv
          have h1 := hM.id
          have h2 := hN.id
          simp only at hby
          omega
    · have hi' : (w.log ++ [Vote.mk n.id c])[i]? = some v := hi
      show Vote.mk (leader (lastEp v.chain)) v.chain ∈ (w.log ++ [Vote.mk n.id c]).take (i + 1)
      rcases Nat.lt_or_ge i w.log.length with hlt' | hge
      · rw [List.getElem?_append_left hlt'] at hi'
        rw [List.take_append_of_le_length (by omega)]
        exact h.ord i v hi' hv
      · rw [List.getElem?_append_right hge] at hi'
        have h0 : i - w.log.length = 0 := by
          have := (List.getElem?_eq_some_iff.1 hi').1
          simp at this; exact this
        rw [h0] at hi'
        simp at hi'
        subst hi'
        rw [List.take_of_length_le (by simp; omega)]
        have := hm.lead
        show Vote.mk (leader (lastEp c)) c ∈ _
        rw [hm.last]
        rcases List.mem_append.1 this with hh | hh
        · exact hmL _ (hN.sub hb _ hh)
        · exact List.mem_append_right _ hh
  · rw [voteF_no hs]
    simp only [putF]
    rw [if_neg (by decide), set_self hn]
    exact h
theorem Inv.idle {w : Wrld} {k : Nat} {n : Nod} (h : Inv w) (hn : w.nodes[k]? = some n) : Inv (putF w k (n, .zero, false)) := by
  simp only [putF]
  rw [if_neg (by decide), set_self hn]
  exact h
theorem propose_cases (n : Nod) (p : Pay) : proposeF n p = (n, .zero, false) ∨ ∃ c, May n c ∧ proposeF n p = voteF n c := by
  unfold proposeF
  split
  · rename_i hh
    simp only [Bool.and_eq_true, decide_eq_true_eq] at hh
    refine .inr ⟨_, ⟨hh.1.1, lastEp_snoc _ _, by simp, ?_, hh.2, ?_⟩, rfl⟩
    · have : (tipOf n.seen ++ [Itm.mk n.epoch p]).take ((tipOf n.seen ++ [Itm.mk n.epoch p]).length - 1) = tipOf n.seen := by simp
      rw [this]; exact tip_sure _
    · rw [hh.1.2]; simp
  · exact .inl rfl
theorem try_cases (n : Nod) (hm : mayN n = true) (ho : ∀ v ∈ n.seen, voteOk v = true) : ∀ l : List Vote, (∀ v ∈ l, v ∈ n.seen) → tryF n l = (n, .zero, false) ∨ ∃ c, May n c ∧ tryF n l = voteF n c
  | [], _ => .inl rfl
  | u :: r, h => by
    simp only [tryF]
    split
    · rename_i hf
      simp only [fits, Bool.and_eq_true, decide_eq_true_eq] at hf
      have hu := h u (by simp)
      refine .inr ⟨u.chain, ⟨hm, hf.1.1.2, hf.1.2, hf.2, voteOk_chain (ho u hu), ?_⟩, rfl⟩
      refine List.mem_append_left _ ?_
      have : Vote.mk (leader n.epoch) u.chain = u := by rw [← hf.1.1.1]
      rw [this]; exact hu
    · exact try_cases n hm ho r fun v hv => h v (by simp [hv])
theorem tick_epoch {w : Wrld} (hw : 0 ≤ w.epoch ∧ w.epoch ≤ 30) {n : Nod} (he : n.epoch = w.epoch) : (enterF n (min (w.epoch + 1) 30)).epoch = min (w.epoch + 1) 30 ∧ (enterF n (min (w.epoch + 1) 30)).id = n.id ∧ (enterF n (min (w.epoch + 1) 30)).seen = n.seen ∧ (enterF n (min (w.epoch + 1) 30)).voted = n.voted := by
  unfold enterF
  split
  · exact ⟨rfl, rfl, rfl, rfl⟩
  · rename_i hh
    refine ⟨?_, rfl, rfl, rfl⟩
    have : ¬ (n.epoch + 1 ≤ min (w.epoch + 1) 30 ∧ min (w.epoch + 1) 30 ≤ 30) := fun ⟨a, b⟩ => hh (by simp only [within, Bool.and_eq_true, decide_eq_true_eq]; exact ⟨a, b⟩)
    omega
theorem Inv.tick {w : Wrld} (h : Inv w) : Inv (tickF w) := by
  refine ⟨tickF_ok h.ok, h.bad, fun k n hn => ?_, h.ord⟩
  have hn' : (w.nodes.map fun n => enterF n (min (w.epoch + 1) 30))[k]? = some n := hn
  rw [List.getElem?_map] at hn'
  cases hm : w.nodes[k]? with
  | none => rw [hm] at hn'; cases hn'
  | some m =>
    rw [hm] at hn'
    injection hn' with hn'
    have hM := h.nodes k m hm
    have he := tick_epoch h.ok.ep hM.ep
    simp only at hn'
    rw [hn'] at he
    obtain ⟨e1, e2, e3, e4⟩ := he
    refine ⟨by rw [e2]; exact hM.id, e1, ?_, ?_, ?_, ?_, ?_, ?_, ?_, ?_⟩ <;> rw [e3] <;> first | rw [e2] | skip
    · exact hM.idle
    · exact hM.sub
    · exact hM.own
    · exact hM.one
    · exact hM.long
    · exact hM.tip
    · exact hM.behind
    · exact hM.lead
theorem node_id {w : Wrld} (h : Inv w) {id : Int} (hid : 1 ≤ id ∧ id ≤ 4) {n : Nod} (hn : w.nodes[(id - 1).toNat]? = some n) : n.id = id := by
  have := (h.nodes _ n hn).id
  omega
theorem Inv.propose {w : Wrld} (h : Inv w) (id : Int) (p : Pay) : Inv (wproposeF w id p) := by
  unfold wproposeF
  split
  · rename_i hh
    simp only [honestB, Bool.and_eq_true, Bool.not_eq_true', decide_eq_false_iff_not, decide_eq_true_eq] at hh
    have hid : 1 ≤ id ∧ id ≤ 4 := by simpa [within] using hh.1.1.1
    split
    · rename_i n hn
      have hi := node_id h hid hn
      rcases propose_cases n p with e | ⟨c, hc, e⟩
      · rw [e]; exact h.idle hn
      · rw [e]; exact h.vote hn (by rw [hi]; exact hh.1.1.2) hh.1.2 hc
    · exact h
  · exact h
theorem putF_set {w : Wrld} {k : Nat} {m : Nod} (x : Nod × Vote × Bool) : putF { w with nodes := w.nodes.set k m } k x = putF w k x := by
  unfold putF
  simp only [List.set_set]
theorem Inv.bring {w : Wrld} (h : Inv w) (a id : Int) : Inv (wbringF w a id) := by
  unfold wbringF
  split
  · rename_i hh
    simp only [honestB, Bool.and_eq_true, Bool.not_eq_true', decide_eq_false_iff_not, decide_eq_true_eq] at hh
    have hid : 1 ≤ id ∧ id ≤ 4 := by simpa [within] using hh.1.1.1
    split
    · rename_i n v hn hv
      have hi := node_id h hid hn
      have hb : n.id ≠ w.bad := by rw [hi]; exact hh.1.1.2
      unfold hearF
      split
      · rename_i hc
        simp only [Bool.and_eq_true, Bool.not_eq_true', decide_eq_false_iff_not, decide_eq_true_eq] at hc
        have hk : (id - 1).toNat < w.nodes.length := (List.getElem?_eq_some_iff.1 hn).1
        have hM := (h.nodes _ n hn).see hb (List.mem_of_getElem? hv) hc.1.2
        have hMo := seeF_nok (h.ok.nodes n (List.mem_of_getElem? hn)) hc.1.1 hc.1.2 hc.2
        have h' := h.set hk hM hMo
        have hn' : ({ w with nodes := w.nodes.set (id - 1).toNat (seeF n v) } : Wrld).nodes[(id - 1).toNat]? = some (seeF n v) := List.getElem?_set_self hk
        split
        · rename_i hmay
          rcases try_cases (seeF n v) hmay (votesOk_mem (nodeOk_iff.1 hMo).1.2.2.2.2) _ (fun _ h => h) with e | ⟨c, hc', e⟩
          · rw [e, ← putF_set (m := seeF n v)]; exact h'.idle hn'
          · rw [e, ← putF_set (m := seeF n v)]; exact h'.vote hn' (by rw [(seeF_epoch n v).2.1]; exact hb) hh.1.2 hc'
        · rw [← putF_set (m := seeF n v)]; exact h'.idle hn'
      · exact h.idle hn
    · exact h
  · exact h
theorem Inv.forge {w : Wrld} (h : Inv w) {v : Vote} (hv : voteOk v = true) (hb : v.by_ = w.bad) : Inv (sendF w v) := by
  have hfx := sendF_ok h.ok hv
  unfold sendF at hfx ⊢
  split
  · rename_i hh
    rw [if_pos hh] at hfx
    have hmL : ∀ u ∈ w.log, u ∈ w.log ++ [v] := fun u hu => List.mem_append_left _ hu
    refine ⟨hfx, h.bad, fun k n hn => (h.nodes k n hn).more hmL fun hne u hu hub => ?_, fun i u hi hu => ?_⟩
    · rcases List.mem_append.1 hu with hu | hu
      · exact hu
      · simp at hu; subst hu; exact absurd (hub.symm.trans hb) hne
    · have hi' : (w.log ++ [v])[i]? = some u := hi
      show _ ∈ (w.log ++ [v]).take (i + 1)
      rcases Nat.lt_or_ge i w.log.length with hlt' | hge
      · rw [List.getElem?_append_left hlt'] at hi'
        rw [List.take_append_of_le_length (by omega)]
        exact h.ord i u hi' hu
      · rw [List.getElem?_append_right hge] at hi'
        have h0 : i - w.log.length = 0 := by
          have := (List.getElem?_eq_some_iff.1 hi').1
          simp at this; exact this
        rw [h0] at hi'
        simp at hi'
        subst hi'
        exact absurd hb hu
  · exact h
theorem Inv.do {w : Wrld} (h : Inv w) (e : Evt) : Inv (doF w e) := by
  unfold doF
  split
  · exact h.tick
  · split
    · exact h.propose _ _
    · split
      · exact h.bring _ _
      · split
        · split
          · rename_i hh
            simp only [Bool.and_eq_true, decide_eq_true_eq] at hh
            exact h.forge hh.1 hh.2
          · exact h
        · exact h
theorem Inv.new {bad : Int} (hb : within bad 0 4 = true) : Inv (newW bad) := by
  refine ⟨newW_ok bad, hb, fun k n hn => ?_, fun i v hv => by simp [newW] at hv⟩
  have : n = newN ((k : Int) + 1) := by
    have hk : k < 4 := (List.getElem?_eq_some_iff.1 hn).1
    match k, hk with
    | 0, _ => simp [newW] at hn; exact hn.symm
    | 1, _ => simp [newW] at hn; exact hn.symm
    | 2, _ => simp [newW] at hn; exact hn.symm
    | 3, _ => simp [newW] at hn; exact hn.symm
  subst this
  refine ⟨rfl, rfl, fun _ => rfl, fun _ v hv => by simp [newN] at hv, fun _ v hv => by simp [newW] at hv, ?_, ?_, ?_, ?_, ?_⟩ <;> intro v hv <;> simp [newN] at hv
theorem Inv.fold : ∀ (l : List Evt) {w : Wrld}, Inv w → Inv (l.foldl doF w)
  | [], _, h => h
  | e :: r, _, h => Inv.fold r (h.do e)
theorem Inv.play {bad : Int} (hb : within bad 0 4 = true) (evs : List Evt) : Inv (playF bad evs) := Inv.fold evs (Inv.new hb)
theorem doF_bad (w : Wrld) (e : Evt) : (doF w e).bad = w.bad := by
  have hs : ∀ (w : Wrld) v, (sendF w v).bad = w.bad := fun w v => by unfold sendF; split <;> rfl
  have hp : ∀ (w : Wrld) k x, (putF w k x).bad = w.bad := fun w k x => by
    unfold putF
    split
    · rw [hs]
    · rfl
  unfold doF
  split
  · rfl
  · split
    · unfold wproposeF
      split
      · split
        · exact hp _ _ _
        · rfl
      · rfl
    · split
      · unfold wbringF
        split
        · split
          · exact hp _ _ _
          · rfl
        · rfl
      · split
        · split
          · exact hs _ _
          · rfl
        · rfl
/-- Votes of who does not lie lie with himself. -/
theorem Inv.mine {w : Wrld} (h : Inv w) {v : Vote} (hv : v ∈ w.log) (hb : v.by_ ≠ w.bad) : ∃ k n, w.nodes[k]? = some n ∧ n.id = v.by_ ∧ v ∈ n.seen ∧ NInv w.epoch w.bad w.log k n ∧ nodeOk n = true := by
  have hby := voteOk_by (votesOk_mem h.ok.log v hv)
  have hlt : (v.by_ - 1).toNat < w.nodes.length := by rw [h.ok.four]; omega
  have hn : w.nodes[(v.by_ - 1).toNat]? = some w.nodes[(v.by_ - 1).toNat] := List.getElem?_eq_getElem hlt
  have hN := h.nodes _ _ hn
  have hid : (w.nodes[(v.by_ - 1).toNat]).id = v.by_ := by have := hN.id; omega
  exact ⟨_, _, hn, hid, hN.own (by rw [hid]; exact hb) v hv hid.symm, hN, h.ok.nodes _ (List.getElem_mem hlt)⟩
theorem Inv.safe {w : Wrld} (h : Inv w) : Safe w.bad w.log := by
  refine ⟨fun u hu v hv hby hb he => ?_, fun u hu v hv hby hb he => ?_⟩
  · obtain ⟨k, n, hn, hid, hs, hN, _⟩ := h.mine hu hb
    exact hN.one u hs v (hN.own (by rw [hid]; exact hb) v hv (by rw [hid, hby])) hid.symm (by rw [hid, hby]) he
  · obtain ⟨k, n, hn, hid, hs, hN, _⟩ := h.mine hu hb
    exact hN.long u hs v (hN.own (by rw [hid]; exact hb) v hv (by rw [hid, hby])) hid.symm (by rw [hid, hby]) he
end Go.Wt

/- Finals of a world fit each other. -/
set_option linter.unusedVariables false
set_option linter.unusedSimpArgs false
namespace Go.Wt
theorem chainFrom_take : ∀ (c : List Itm) (e : Int) (n : Nat), chainFrom e c = true → chainFrom e (c.take n) = true
  | [], e, n, h => by simp [chainFrom]
  | x :: c, e, 0, h => by simp [chainFrom]
  | x :: c, e, n + 1, h => by
    simp only [chainFrom, Bool.and_eq_true, List.take_succ_cons] at h ⊢
    exact ⟨h.1, chainFrom_take c _ n h.2⟩
theorem chainOk_take {c : List Itm} (h : chainOk c = true) (n : Nat) : chainOk (c.take n) = true := by
  unfold chainOk at h ⊢
  simp only [Bool.and_eq_true, decide_eq_true_eq] at h ⊢
  refine ⟨chainFrom_take c 0 n h.1, ?_⟩
  rw [List.length_take]; omega
theorem sure_chainOk {l : List Vote} (hl : ∀ v ∈ l, voteOk v = true) {c : List Itm} (h : sure l c = true) : chainOk c = true := by
  cases c with
  | nil => rfl
  | cons x c =>
    obtain ⟨v, h1, h2⟩ := voters_some (l := l) (c := x :: c) (by have := sure_self h (by simp); omega)
    rw [← h2]; exact voteOk_chain (hl v h1)
theorem final_chainOk {l : List Vote} (hl : ∀ v ∈ l, voteOk v = true) : chainOk (finalOf l) = true := chainOk_take (sure_chainOk hl (shown_sure l)) _
theorem inS_prefix {a b : List Itm} (h : a <+: b) : inS a b = true := by
  unfold inS
  have h1 := h.length_le
  have h2 := List.prefix_iff_eq_take.1 h
  simp only [Bool.and_eq_true, decide_eq_true_eq]
  exact ⟨h1, h2⟩
def chIn (a b : List Itm) : Bool := chainOk a && chainOk b && inS a b
def fitsB (a b : List Itm) : Bool := chIn a b || chIn b a
theorem fits_of {a b : List Itm} (ha : chainOk a = true) (hb : chainOk b = true) (h : a <+: b ∨ b <+: a) : fitsB a b = true := by
  unfold fitsB chIn
  rcases h with h | h
  · simp [ha, hb, inS_prefix h]
  · simp [ha, hb, inS_prefix h]
/-- What any two who do not lie hold for final fits. -/
theorem Inv.agree {w : Wrld} (h : Inv w) {i k : Nat} {a b : Nod} (ha : w.nodes[i]? = some a) (hb : w.nodes[k]? = some b) (h1 : (i : Int) + 1 ≠ w.bad) (h2 : (k : Int) + 1 ≠ w.bad) : fitsB (finalOf a.seen) (finalOf b.seen) = true := by
  have hA := h.nodes i a ha
  have hB := h.nodes k b hb
  have oa := nodeOk_iff.1 (h.ok.nodes a (List.mem_of_getElem? ha))
  have ob := nodeOk_iff.1 (h.ok.nodes b (List.mem_of_getElem? hb))
  exact fits_of (final_chainOk (votesOk_mem oa.1.2.2.2.2)) (final_chainOk (votesOk_mem ob.1.2.2.2.2)) (h.safe.fits (hA.sub (by rw [hA.id]; exact h1)) (hB.sub (by rw [hB.id]; exact h2)))
theorem nodeOk_seen {n : Nod} (h : nodeOk n = true) : votesOk n.seen = true ∧ n.seen.length ≤ 80 := by
  have := nodeOk_iff.1 h
  exact ⟨this.1.2.2.2.2, this.1.2.2.2.1⟩
/-- An honest vote's place behind what is sure. -/
theorem Inv.behind {w : Wrld} (h : Inv w) {v : Vote} (hv : v ∈ w.log) (hb : v.by_ ≠ w.bad) : sure w.log (v.chain.take (v.chain.length - 1)) = true := by
  obtain ⟨k, n, hn, hid, hs, hN, _⟩ := h.mine hv hb
  exact sure_mono (hN.sub (by rw [hid]; exact hb)) (hN.behind v hs hid.symm)
/-- A sure chain is of no later epoch. -/
theorem Inv.epoch {w : Wrld} (h : Inv w) {c : List Itm} (hs : sure w.log c = true) (h0 : 0 < c.length) : lastEp c ≤ w.epoch := by
  obtain ⟨n, hn, hm⟩ := quorum1 w.bad (sure_self hs h0)
  obtain ⟨k, m, hk, hid, hms, hN, hno⟩ := h.mine hm hn
  have := (nodeOk_iff.1 hno).2 _ hms hid.symm
  have h2 := (nodeOk_iff.1 hno).1.2.2.1
  have := hN.ep
  simp only at *
  omega
/-- Of a sure chain's epoch the leader voted for it. -/
theorem Inv.leader {w : Wrld} (h : Inv w) {c : List Itm} (hs : sure w.log c = true) (h0 : 0 < c.length) : Vote.mk (leader (lastEp c)) c ∈ w.log := by
  obtain ⟨n, hn, hm⟩ := quorum1 w.bad (sure_self hs h0)
  obtain ⟨k, m, hk, hid, hms, hN, hno⟩ := h.mine hm hn
  exact hN.sub (by rw [hid]; exact hn) _ (hN.lead _ hms hid.symm)
end Go.Wt

/- The program's words for outsiders. -/
set_option linter.unusedVariables false
set_option linter.unusedSimpArgs false
namespace Go.Proofs.Ytmabpmlcclgecaa
open Go Go.Wt
theorem gdOf {l : List Vote} (ho : votesOk l = true) (hl : l.length ≤ 1000) : Gd l := ⟨hl, votesOk_mem ho⟩
theorem treeFinal_ct (l : List Vote) (ho : votesOk l = true) (hl : l.length ≤ 1000) : CtP Try.prog 28 [.v l] (.v (CList.mk (finalOf l))) := by
  have hg := gdOf ho hl
  refine Ct.intro Try.func28 rfl rfl ?_
  all_goals first | refine awp_seq (awp_region (id := 0) ?_) | refine awp_seq (awp_seq (awp_region (id := 0) ?_)) | refine awp_region (id := 0) ?_ | refine awp_seq (awp_seq (awp_seq (awp_region (id := 0) ?_)))
  all_goals refine awpOps_cons (op_as rfl (Conv.of rfl) rfl) ?_
  all_goals refine awpOps_nil ?_
  all_goals first | refine awp_seq (awp_region (id := 1) ?_) | refine awp_seq (awp_seq (awp_region (id := 1) ?_)) | refine awp_region (id := 1) ?_ | refine awp_seq (awp_seq (awp_seq (awp_region (id := 1) ?_)))
  all_goals first | refine awpOps_cons (op_mv rfl (Conv.of rfl) rfl) ?_ | refine awpOps_cons (op_mvl rfl rfl rfl rfl) ?_ | refine awpOps_cons (op_mvo rfl rfl rfl rfl) ?_
  all_goals refine awpOps_cons (op_call fb48 (.cons rfl (Conv.of rfl) (.nil _)) (votesOk_ct _) (argOk rfl rfl argOk0) rfl rfl) ?_
  all_goals refine awpOps_cons (op_not rfl rfl) ?_
  all_goals refine awpOps_nil ?_
  first | refine awp_seq (awp_cond rfl (fun h => absurd (not_t h) (by rw [ho]; decide)) (fun h => ?_)) | refine awp_seq (awp_seq (awp_cond rfl (fun h => absurd (not_t h) (by rw [ho]; decide)) (fun h => ?_))) | refine awp_cond rfl (fun h => absurd (not_t h) (by rw [ho]; decide)) (fun h => ?_) | refine awp_seq (awp_seq (awp_seq (awp_cond rfl (fun h => absurd (not_t h) (by rw [ho]; decide)) (fun h => ?_))))
  refine awp_skip ?_
  all_goals first | refine awp_seq (awp_region (id := 3) ?_) | refine awp_seq (awp_seq (awp_region (id := 3) ?_)) | refine awp_region (id := 3) ?_ | refine awp_seq (awp_seq (awp_seq (awp_region (id := 3) ?_)))
  all_goals first | refine awpOps_cons (op_mv rfl (Conv.of rfl) rfl) ?_ | refine awpOps_cons (op_mvl rfl rfl rfl rfl) ?_ | refine awpOps_cons (op_mvo rfl rfl rfl rfl) ?_
  all_goals refine awpOps_cons (op_call fb57 (.cons rfl (Conv.of rfl) (.nil _)) (vfinal_ct _ hg.l hg.v hg.e) (argOk rfl rfl argOk0) rfl rfl) ?_
  all_goals first | refine awpOps_cons (op_as rfl (Conv.of rfl) rfl) ?_ | refine awpOps_cons (op_asl rfl rfl rfl rfl) ?_ | refine awpOps_cons (op_aso rfl rfl rfl rfl) ?_
  all_goals refine awpOps_nil ?_
  refine awp_ret ?_
  repeat first | refine rt_seq ?_ | refine rt_block ?_
  exact finP (.v rfl (Conv.of rfl)) rfl rfl
end Go.Proofs.Ytmabpmlcclgecaa

/- Plays with fewer events; what grows. -/
set_option linter.unusedVariables false
set_option linter.unusedSimpArgs false
namespace Go.Wt
theorem tip_nil {l : List Vote} {id : Int} (h : ∀ v ∈ l, v.by_ = id) : tipOf l = [] := by
  by_cases h0 : 0 < (tipOf l).length
  · obtain ⟨n, hn, hm⟩ := quorum1 id (sure_self (tip_sure l) h0)
    exact absurd (h _ hm) hn
  · exact List.eq_nil_of_length_eq_zero (by omega)
/-! Forged votes and ticks alone -/
structure Al (w : Wrld) : Prop where
  seen : ∀ n ∈ w.nodes, n.seen = []
  log : ∀ v ∈ w.log, v.by_ = w.bad
theorem Al.do {w : Wrld} {e : Evt} (h : Al w) (he : e.kind = 4 ∨ e.kind = 1) : Al (doF w e) := by
  unfold doF
  rcases he with he | he
  · rw [if_neg (by omega), if_neg (by omega), if_neg (by omega), if_pos he]
    split
    · rename_i hh
      simp only [Bool.and_eq_true, decide_eq_true_eq] at hh
      unfold sendF
      split
      · refine ⟨h.seen, fun v hv => ?_⟩
        rcases List.mem_append.1 hv with hv | hv
        · exact h.log v hv
        · simp at hv; subst hv; exact hh.2
      · exact h
    · exact h
  · rw [if_pos he]
    refine ⟨fun n hn => ?_, h.log⟩
    obtain ⟨m, hm, rfl⟩ := List.mem_map.1 hn
    have := h.seen m hm
    unfold enterF; split <;> exact this
theorem Al.fold : ∀ (l : List Evt) {w : Wrld}, Al w → (∀ e ∈ l, e.kind = 4 ∨ e.kind = 1) → Al (l.foldl doF w)
  | [], _, h, _ => h
  | e :: r, _, h, hl => Al.fold r (h.do (hl e (by simp))) fun e' he => hl e' (by simp [he])
theorem Al.play {bad : Int} {evs : List Evt} (h : ∀ e ∈ evs, e.kind = 4 ∨ e.kind = 1) : Al (playF bad evs) :=
  Al.fold evs ⟨fun n hn => by simp [newW, newN] at hn; rcases hn with rfl | rfl | rfl | rfl <;> rfl, fun v hv => by simp [newW] at hv⟩ h
/-! Nothing is brought -/
def Uh (w : Wrld) : Prop := ∀ n ∈ w.nodes, ∀ v ∈ n.seen, v.by_ = n.id ∧ v.chain.length = 1
theorem send_nodes' (w : Wrld) (v : Vote) : (sendF w v).nodes = w.nodes := by unfold sendF; split <;> rfl
theorem put_nodes' (w : Wrld) (k : Nat) (x : Nod × Vote × Bool) : (putF w k x).nodes = w.nodes.set k x.1 := by
  unfold putF
  split
  · rw [send_nodes']
  · rfl
theorem Uh.do {w : Wrld} {e : Evt} (h : Uh w) (he : e.kind ≠ 3) : Uh (doF w e) := by
  unfold doF
  split
  · intro n hn
    obtain ⟨m, hm, rfl⟩ := List.mem_map.1 hn
    have := h m hm
    unfold enterF; split <;> exact this
  · split
    · unfold wproposeF
      split
      · split
        · rename_i n hn
          intro m hm
          rw [put_nodes'] at hm
          rcases List.mem_or_eq_of_mem_set hm with hm | hm
          · exact h m hm
          · subst hm
            have hN := h n (List.mem_of_getElem? hn)
            rcases propose_cases n e.pay with e1 | ⟨c, hc, e1⟩
            · rw [e1]; exact hN
            · rw [e1]
              have hl := hc.len
              rw [tip_nil fun v hv => (hN v hv).1] at hl
              unfold voteF
              split
              · exact hN
              · intro v hv
                rcases List.mem_append.1 hv with hv | hv
                · exact hN v hv
                · simp at hv; subst hv; exact ⟨rfl, by simpa using hl⟩
        · exact h
      · exact h
    · split
      · split
        · intro n hn; rw [send_nodes'] at hn; exact h n hn
        · exact h
      · exact h
theorem Uh.fold : ∀ (l : List Evt) {w : Wrld}, Uh w → (∀ e ∈ l, e.kind ≠ 3) → Uh (l.foldl doF w)
  | [], _, h, _ => h
  | e :: r, _, h, hl => Uh.fold r (h.do (hl e (by simp))) fun e' he => hl e' (by simp [he])
theorem Uh.play {bad : Int} {evs : List Evt} (h : ∀ e ∈ evs, e.kind ≠ 3) : Uh (playF bad evs) :=
  Uh.fold evs (fun n hn v hv => by simp [newW, newN] at hn; rcases hn with rfl | rfl | rfl | rfl <;> simp at hv) h
/-! Nothing is forged -/
theorem log_put {w : Wrld} {k : Nat} {x : Nod × Vote × Bool} {v : Vote} (h : v ∈ (putF w k x).log) : v ∈ w.log ∨ (x.2.2 = true ∧ v = x.2.1) := by
  unfold putF at h
  split at h
  · rename_i hx
    unfold sendF at h
    split at h
    · rcases List.mem_append.1 h with h | h
      · exact .inl h
      · simp at h; exact .inr ⟨hx, h⟩
    · exact .inl h
  · exact .inl h
theorem voteF_by {n : Nod} {c : List Itm} (h : (voteF n c).2.2 = true) : (voteF n c).2.1.by_ = n.id := by
  unfold voteF at h ⊢
  split at h
  · cases h
  · rename_i hh; rw [if_neg hh]
theorem propose_by {n : Nod} {p : Pay} (h : (proposeF n p).2.2 = true) : (proposeF n p).2.1.by_ = n.id := by
  rcases propose_cases n p with e | ⟨c, _, e⟩
  · rw [e] at h; cases h
  · rw [e] at h ⊢; exact voteF_by h
theorem tryF_by {n : Nod} : ∀ {l : List Vote}, (tryF n l).2.2 = true → (tryF n l).2.1.by_ = n.id
  | [], h => by cases h
  | u :: r, h => by
    simp only [tryF] at h ⊢
    split at h
    · rename_i hf; rw [if_pos hf]; exact voteF_by h
    · rename_i hf; rw [if_neg hf]; exact tryF_by h
theorem hear_by {n : Nod} {v : Vote} (h : (hearF n v).2.2 = true) : (hearF n v).2.1.by_ = n.id := by
  unfold hearF at h ⊢
  split at h
  · rename_i hh
    rw [if_pos hh]
    split at h
    · rename_i hm
      rw [if_pos hm, ← (seeF_epoch n v).2.1]
      exact tryF_by h
    · cases h
  · cases h
def Si (w : Wrld) : Prop := ∀ v ∈ w.log, v.by_ ≠ w.bad
theorem Si.do {w : Wrld} {e : Evt} (hI : Inv w) (h : Si w) (he : e.kind ≠ 4) : Si (doF w e) := by
  intro v hv
  rw [doF_bad]
  unfold doF at hv
  split at hv
  · exact h v hv
  · split at hv
    · unfold wproposeF at hv
      split at hv
      · rename_i hh
        simp only [honestB, Bool.and_eq_true, Bool.not_eq_true', decide_eq_false_iff_not, decide_eq_true_eq] at hh
        have hid : 1 ≤ e.a ∧ e.a ≤ 4 := by simpa [within] using hh.1.1.1
        split at hv
        · rename_i n hn
          rcases log_put hv with hv | ⟨h1, rfl⟩
          · exact h v hv
          · rw [propose_by h1, node_id hI hid hn]; exact hh.1.1.2
        · exact h v hv
      · exact h v hv
    · split at hv
      · unfold wbringF at hv
        split at hv
        · rename_i hh
          simp only [honestB, Bool.and_eq_true, Bool.not_eq_true', decide_eq_false_iff_not, decide_eq_true_eq] at hh
          have hid : 1 ≤ e.b ∧ e.b ≤ 4 := by simpa [within] using hh.1.1.1
          split at hv
          · rename_i n u hn hu
            rcases log_put hv with hv | ⟨h1, rfl⟩
            · exact h v hv
            · rw [hear_by h1, node_id hI hid hn]; exact hh.1.1.2
          · exact h v hv
        · exact h v hv
      · exact h v hv
theorem Si.fold : ∀ (l : List Evt) {w : Wrld}, Inv w → Si w → (∀ e ∈ l, e.kind ≠ 4) → Si (l.foldl doF w)
  | [], _, _, h, _ => h
  | e :: r, _, hI, h, hl => Si.fold r (hI.do e) (h.do hI (hl e (by simp))) fun e' he => hl e' (by simp [he])
theorem Si.play {bad : Int} (hb : within bad 0 4 = true) {evs : List Evt} (h : ∀ e ∈ evs, e.kind ≠ 4) : Si (playF bad evs) :=
  Si.fold evs (Inv.new hb) (fun v hv => by simp [newW] at hv) h
/-! What was seen stays seen -/
structure Grw (w w' : Wrld) : Prop where
  log : ∀ v ∈ w.log, v ∈ w'.log
  seen : ∀ (i : Nat) (n : Nod), w.nodes[i]? = some n → ∃ n', w'.nodes[i]? = some n' ∧ ∀ v ∈ n.seen, v ∈ n'.seen
theorem Grw.refl (w : Wrld) : Grw w w := ⟨fun _ h => h, fun i n h => ⟨n, h, fun _ h => h⟩⟩
theorem Grw.trans {a b c : Wrld} (h : Grw a b) (k : Grw b c) : Grw a c := ⟨fun v hv => k.log v (h.log v hv), fun i n hn => by
  obtain ⟨m, h1, h2⟩ := h.seen i n hn
  obtain ⟨o, h3, h4⟩ := k.seen i m h1
  exact ⟨o, h3, fun v hv => h4 v (h2 v hv)⟩⟩
theorem Grw.send (w : Wrld) (v : Vote) : Grw w (sendF w v) := ⟨fun u hu => by
  unfold sendF; split
  · exact List.mem_append_left _ hu
  · exact hu, fun i n hn => ⟨n, by rw [send_nodes']; exact hn, fun _ h => h⟩⟩
theorem Grw.set {w : Wrld} {k : Nat} {n m : Nod} (hn : w.nodes[k]? = some n) (hm : ∀ v ∈ n.seen, v ∈ m.seen) : Grw w { w with nodes := w.nodes.set k m } := ⟨fun _ h => h, fun i a ha => by
  by_cases e : i = k
  · subst e
    rw [hn] at ha
    injection ha with ha
    subst ha
    exact ⟨m, List.getElem?_set_self (List.getElem?_eq_some_iff.1 hn).1, hm⟩
  · exact ⟨a, by show (w.nodes.set k m)[i]? = _; rw [List.getElem?_set_ne (Ne.symm e)]; exact ha, fun _ h => h⟩⟩
theorem Grw.put {w : Wrld} {k : Nat} {n : Nod} {x : Nod × Vote × Bool} (hn : w.nodes[k]? = some n) (hm : ∀ v ∈ n.seen, v ∈ x.1.seen) : Grw w (putF w k x) := by
  unfold putF
  split
  · exact (Grw.set hn hm).trans (Grw.send _ _)
  · exact Grw.set hn hm
theorem voteF_seen (n : Nod) (c : List Itm) : ∀ v ∈ n.seen, v ∈ (voteF n c).1.seen := fun v hv => by
  unfold voteF; split
  · exact hv
  · exact List.mem_append_left _ hv
theorem proposeF_seen (n : Nod) (p : Pay) : ∀ v ∈ n.seen, v ∈ (proposeF n p).1.seen := by
  rcases propose_cases n p with e | ⟨c, _, e⟩
  · rw [e]; exact fun _ h => h
  · rw [e]; exact voteF_seen n c
theorem tryF_seen (n : Nod) : ∀ l : List Vote, ∀ v ∈ n.seen, v ∈ (tryF n l).1.seen
  | [] => fun _ h => h
  | u :: r => by
    simp only [tryF]
    split
    · exact voteF_seen n _
    · exact tryF_seen n r
theorem seeF_seen (n : Nod) (u : Vote) : ∀ v ∈ n.seen, v ∈ (seeF n u).seen := fun v hv => by
  unfold seeF; split
  · exact hv
  · exact List.mem_append_left _ hv
theorem hearF_seen (n : Nod) (u : Vote) : ∀ v ∈ n.seen, v ∈ (hearF n u).1.seen := fun v hv => by
  unfold hearF
  split
  · split
    · exact tryF_seen _ _ v (seeF_seen n u v hv)
    · exact seeF_seen n u v hv
  · exact hv
theorem Grw.do (w : Wrld) (e : Evt) : Grw w (doF w e) := by
  unfold doF
  split
  · refine ⟨fun _ h => h, fun i n hn => ⟨enterF n (min (w.epoch + 1) 30), ?_, ?_⟩⟩
    · show (w.nodes.map _)[i]? = _
      rw [List.getElem?_map, hn]; rfl
    · unfold enterF; split <;> exact fun _ h => h
  · split
    · unfold wproposeF
      split
      · split
        · rename_i n hn; exact Grw.put hn (proposeF_seen n _)
        · exact Grw.refl w
      · exact Grw.refl w
    · split
      · unfold wbringF
        split
        · split
          · rename_i n v hn hv; exact Grw.put hn (hearF_seen n v)
          · exact Grw.refl w
        · exact Grw.refl w
      · split
        · split
          · exact Grw.send _ _
          · exact Grw.refl w
        · exact Grw.refl w
theorem Grw.fold : ∀ (l : List Evt) (w : Wrld), Grw w (l.foldl doF w)
  | [], w => Grw.refl w
  | e :: r, w => (Grw.do w e).trans (Grw.fold r _)
theorem Grw.play (bad : Int) (evs : List Evt) (n : Nat) : Grw (playF bad (evs.take n)) (playF bad evs) := by
  have : playF bad evs = (evs.drop n).foldl doF (playF bad (evs.take n)) := by
    unfold playF; rw [← List.foldl_append, List.take_append_drop]
  rw [this]; exact Grw.fold _ _
end Go.Wt

/- Worlds in form. -/
set_option linter.unusedVariables false
set_option linter.unusedSimpArgs false
namespace Go.Wt
def shownB (w : Wrld) (v : Vote) : Bool := decide (v.by_ = w.bad) || decide (v ∈ w.log)
def nodeIn (w : Wrld) (i : Nat) (n : Nod) : Bool := nodeOk n && decide (n.id = (i : Int) + 1) && decide (n.epoch = w.epoch) && !(n.seen.any fun v => !shownB w v)
def nodesOkFrom (w : Wrld) : List Nod → Nat → Bool
  | [], _ => true
  | n :: r, i => nodeIn w i n && nodesOkFrom w r (i + 1)
def worldOk0 (w : Wrld) : Bool := within w.epoch 0 30 && within w.bad 0 4 && decide (w.nodes.length = 4) && decide (w.log.length ≤ 80) && votesOk w.log
def worldOk (w : Wrld) : Bool := worldOk0 w && nodesOkFrom w w.nodes 0
theorem nodesOk_iff (w : Wrld) : ∀ (l : List Nod) (j : Nat), nodesOkFrom w l j = true ↔ ∀ (i : Nat) (n : Nod), l[i]? = some n → nodeIn w (j + i) n = true
  | [], j => by simp [nodesOkFrom]
  | x :: r, j => by
    simp only [nodesOkFrom, Bool.and_eq_true, nodesOk_iff w r (j + 1)]
    constructor
    · rintro ⟨h1, h2⟩ i n hi
      cases i with
      | zero => simp at hi; subst hi; exact h1
      | succ i =>
        have := h2 i n (by simpa using hi)
        rwa [show j + 1 + i = j + (i + 1) by omega] at this
    · intro h
      refine ⟨h 0 x rfl, fun i n hi => ?_⟩
      have := h (i + 1) n (by simpa using hi)
      rwa [show j + 1 + i = j + (i + 1) by omega]
structure WOk (w : Wrld) : Prop where
  fx : FineX w
  bad : within w.bad 0 4 = true
  node : ∀ (i : Nat) (n : Nod), w.nodes[i]? = some n → n.id = (i : Int) + 1 ∧ n.epoch = w.epoch ∧ ∀ v ∈ n.seen, v.by_ = w.bad ∨ v ∈ w.log
theorem worldOk_iff {w : Wrld} : worldOk w = true ↔ WOk w := by
  unfold worldOk worldOk0
  simp only [Bool.and_eq_true, nodesOk_iff, Nat.zero_add, decide_eq_true_eq]
  have hin : ∀ i n, nodeIn w i n = true ↔ nodeOk n = true ∧ n.id = (i : Int) + 1 ∧ n.epoch = w.epoch ∧ ∀ v ∈ n.seen, v.by_ = w.bad ∨ v ∈ w.log := fun i n => by
    unfold nodeIn shownB
    simp only [Bool.and_eq_true, decide_eq_true_eq, Bool.not_eq_true', List.any_eq_false, Bool.or_eq_false_iff, decide_eq_false_iff_not, and_assoc, Bool.not_eq_false', Bool.or_eq_true, Bool.not_eq_true]
    constructor
    · rintro ⟨a, b, c, d⟩
      exact ⟨a, b, c, fun v hv => by have := d v hv; by_cases hb : v.by_ = w.bad <;> simp_all⟩
    · rintro ⟨a, b, c, d⟩
      exact ⟨a, b, c, fun v hv => by have := d v hv; by_cases hb : v.by_ = w.bad <;> simp_all⟩
  constructor
  · rintro ⟨⟨⟨⟨⟨h1, h2⟩, h3⟩, h4⟩, h5⟩, h6⟩
    refine ⟨⟨by simpa [within] using h1, h3, h4, h5, fun n hn => ?_⟩, h2, fun i n hn => ((hin i n).1 (h6 i n hn)).2⟩
    obtain ⟨i, hi⟩ := List.mem_iff_getElem?.1 hn
    exact ((hin i n).1 (h6 i n hi)).1
  · rintro ⟨h1, h2, h3⟩
    refine ⟨⟨⟨⟨⟨by have := h1.ep; simpa [within] using this, h2⟩, h1.four⟩, h1.ll⟩, h1.log⟩, fun i n hn => (hin i n).2 ⟨h1.nodes n (List.mem_of_getElem? hn), h3 i n hn⟩⟩
theorem Inv.wok {w : Wrld} (h : Inv w) : WOk w := ⟨h.ok, h.bad, fun i n hn => by
  have hN := h.nodes i n hn
  refine ⟨hN.id, hN.ep, fun v hv => ?_⟩
  by_cases hb : n.id = w.bad
  · rw [hN.idle hb] at hv; cases hv
  · exact .inr (hN.sub hb v hv)⟩
theorem Inv.worldOk {w : Wrld} (h : Inv w) : worldOk w = true := worldOk_iff.2 h.wok
end Go.Wt

/- Worlds in form; what happens in a world, for outsiders. -/
set_option linter.unusedVariables false
set_option linter.unusedSimpArgs false
namespace Go.Proofs.Ytmabpmlcclgecaa
open Go Go.Wt
def worldDoR (w : Wrld) (e : Evt) : Wrld := if worldOk w then doF w e else Wrld.zero
end Go.Proofs.Ytmabpmlcclgecaa

/- Rows whose elements have room of their own: built of one, appended to. -/
set_option linter.unusedVariables false
set_option linter.unusedSimpArgs false
namespace Go.Wt
open Go
variable {P : Program} {S : Nat → Prop} {ops : Array Oper} {st : St}
/-! ### A relabelling of two rows into one -/
def rlA (o o2 o' n : Nat) : Owner → Owner := fun q => match q with
  | (.blk k, p) => if k = o then (.blk o', p) else (.blk k, p)
  | (.obj k, []) => (.obj k, [])
  | (.obj k, i :: p) => if k = o then (.obj o', i :: p) else if k = o2 then (.obj o', (n + i) :: p) else (.obj k, i :: p)
  | q => q
def Gh.rlA (G : Gh) (o o2 o' n : Nat) : Gh := ⟨fun b i => (G.own b i).map (Wt.rlA o o2 o' n), G.hdr⟩
theorem Sh.rlA {G w} (o o2 o' n : Nat) : Sh G w (G.rlA o o2 o' n) w := fun b i v h1 h2 => ⟨by simp [Gh.rlA, h1], h2⟩
theorem Ow.rlA_other {G w} {o o2 o' n : Nat} {ω : Owner} (h1 : ω.1 ≠ .blk o) (h2 : ω.1 ≠ .obj o) (h3 : ω.1 ≠ .obj o2) : Ow G w ω (G.rlA o o2 o' n) w ω never := fun b i π v _ k1 k2 => by
  refine ⟨?_, k2, id⟩
  obtain ⟨p, ρ⟩ := ω
  simp only [Gh.rlA, k1, Option.map_some]
  congr 1
  cases p with
  | blk k => simp at h1; simp [Wt.rlA, h1]
  | obj k =>
    simp at h2 h3
    cases ρ ++ π with
    | nil => rfl
    | cons i p => simp [Wt.rlA, h2, h3]
  | _ => rfl
theorem RelSt.rlA {G w a} {o o2 o' n : Nat} (h : RelSt G w a st) (ho : st.ob o = .dead) (ho2 : st.ob o2 = .dead) : RelSt (G.rlA o o2 o' n) w a st where
  defers := h.defers
  size := h.size
  tmps := fun t => (h.tmps t).mono (Sh.rlA _ _ _ _) (Ow.rlA_other (by simp) (by simp) (by simp)) (fun _ _ _ h => h)
  objs := fun k => by
    by_cases e : k = o
    · subst e; rw [ho]; trivial
    by_cases e2 : k = o2
    · subst e2; rw [ho2]; trivial
    · obtain ⟨T', hT⟩ := Obj.refs_all (st.ob k)
      exact (h.objs k).pres (Sh.rlA _ _ _ _) (fun _ _ _ h => h) hT ⟨rfl, fun b _ _ => ⟨rfl, fun i hi => by simp [Gh.rlA, Wt.rlA, hi, e]⟩, Ow.rlA_other (by simp) (by simpa using e) (by simpa using e2)⟩
theorem Keep.rlA (S : Nat → Prop) (G : Gh) (w : World) (o o2 o' n : Nat) : Keep S G w (G.rlA o o2 o' n) w :=
  ⟨rfl, rfl, rfl, Nat.le_refl _, fun b i v h hc => ⟨by rcases h with h | ⟨π, h⟩ <;> simp [Gh.rlA, Wt.rlA, h], hc, rfl⟩, fun _ _ _ => rfl, fun _ _ _ h => h⟩
end Go.Wt

/- Quiet epochs: all votes are brought to all. -/
set_option linter.unusedVariables false
set_option linter.unusedSimpArgs false
namespace Go.Wt
def b4 (w : Wrld) (a : Int) : Wrld := wbringF (wbringF (wbringF (wbringF w a 1) a 2) a 3) a 4
def sprF : Nat → Nat → Wrld → Wrld
  | 0, _, w => w
  | n + 1, a, w => if a < w.log.length then sprF n (a + 1) (b4 w a) else w
def spreadF (w : Wrld) : Wrld := sprF 100 0 w
def calmF (w : Wrld) (p : Pay) : Wrld := spreadF (wproposeF (spreadF (tickF w)) (leader (spreadF (tickF w)).epoch) p)
def worldCalmR (w : Wrld) (pays : List Pay) : Wrld := if worldOk w && decide (pays.length ≤ 30) then pays.foldl calmF w else .zero
theorem sprF_stop {n a : Nat} {w : Wrld} (h : ¬ a < w.log.length) : sprF n a w = w := by
  cases n with
  | zero => rfl
  | succ n => simp only [sprF]; rw [if_neg h]
theorem sprF_go {n a : Nat} {w : Wrld} (h : a < w.log.length) : sprF (n + 1) a w = sprF n (a + 1) (b4 w a) := by simp only [sprF]; rw [if_pos h]
def brN (w : Wrld) (a : Int) : Nat → Wrld
  | 0 => w
  | k + 1 => wbringF (brN w a k) a ((k : Int) + 1)
/-! ### Lists without one twice -/
theorem nodup_len {α : Type} [DecidableEq α] : ∀ (l m : List α), l.Nodup → (∀ x ∈ l, x ∈ m) → l.length ≤ m.length
  | [], m, _, _ => Nat.zero_le _
  | x :: l, m, h, hs => by
    rw [List.nodup_cons] at h
    have hx := hs x (by simp)
    have := nodup_len l (m.erase x) h.2 fun y hy => (List.mem_erase_of_ne (show y ≠ x from fun e => h.1 (by rw [← e]; exact hy))).2 (hs y (by simp [hy]))
    rw [List.length_erase_of_mem hx] at this
    have := List.length_pos_of_mem hx
    simp only [List.length_cons]
    omega
theorem map_nodup {α β : Type} (f : α → β) : ∀ (l : List α), l.Nodup → (∀ x ∈ l, ∀ y ∈ l, f x = f y → x = y) → (l.map f).Nodup
  | [], _, _ => by simp
  | x :: l, h, hi => by
    rw [List.nodup_cons] at h
    rw [List.map_cons, List.nodup_cons]
    refine ⟨fun hm => ?_, map_nodup f l h.2 fun a ha b hb => hi a (by simp [ha]) b (by simp [hb])⟩
    obtain ⟨y, hy, e⟩ := List.mem_map.1 hm
    exact h.1 (hi y (by simp [hy]) x (by simp) e ▸ hy)
/-! ### What one event sends -/
theorem putF_log (w : Wrld) (k : Nat) (x : Nod × Vote × Bool) : (putF w k x).log = w.log ∨ (x.2.2 = true ∧ (putF w k x).log = w.log ++ [x.2.1]) := by
  unfold putF
  split
  · rename_i hx
    unfold sendF
    split
    · exact .inr ⟨hx, rfl⟩
    · exact .inl rfl
  · exact .inl rfl
theorem voteF_ch {n : Nod} {c : List Itm} (h : (voteF n c).2.2 = true) : (voteF n c).2.1.chain = c := by
  unfold voteF at h ⊢
  split at h
  · cases h
  · rename_i hh; rw [if_neg hh]
theorem tryF_last {n : Nod} : ∀ {l : List Vote}, (tryF n l).2.2 = true → lastEp (tryF n l).2.1.chain = n.epoch
  | [], h => by cases h
  | u :: r, h => by
    simp only [tryF] at h ⊢
    split at h
    · rename_i hf
      rw [if_pos hf, voteF_ch h]
      simp only [fits, Bool.and_eq_true, decide_eq_true_eq] at hf
      exact hf.1.1.2
    · rename_i hf; rw [if_neg hf]; exact tryF_last h
theorem hear_last {n : Nod} {v : Vote} (h : (hearF n v).2.2 = true) : lastEp (hearF n v).2.1.chain = n.epoch := by
  unfold hearF at h ⊢
  split at h
  · rename_i h1
    rw [if_pos h1]
    split at h
    · rename_i h2
      rw [if_pos h2, tryF_last h, (seeF_epoch n v).1]
    · cases h
  · cases h
theorem propose_last {n : Nod} {p : Pay} (h : (proposeF n p).2.2 = true) : lastEp (proposeF n p).2.1.chain = n.epoch := by
  rcases propose_cases n p with e | ⟨c, hc, e⟩
  · rw [e] at h; cases h
  · rw [e] at h ⊢; rw [voteF_ch h]; exact hc.last
/-- At most one vote is sent, by one that does not lie, of this epoch. -/
def Sent (w w' : Wrld) : Prop := w'.epoch = w.epoch ∧ w'.bad = w.bad ∧ (w'.log = w.log ∨ ∃ v, w'.log = w.log ++ [v] ∧ v.by_ ≠ w.bad ∧ lastEp v.chain = w.epoch)
theorem Sent.refl (w : Wrld) : Sent w w := ⟨rfl, rfl, .inl rfl⟩
theorem putF_eb (w : Wrld) (k : Nat) (x : Nod × Vote × Bool) : (putF w k x).epoch = w.epoch ∧ (putF w k x).bad = w.bad := by
  unfold putF sendF
  split
  · split <;> exact ⟨rfl, rfl⟩
  · exact ⟨rfl, rfl⟩
theorem Sent.bring {w : Wrld} (h : Inv w) (a id : Int) : Sent w (wbringF w a id) := by
  unfold wbringF
  split
  · rename_i hh
    simp only [honestB, Bool.and_eq_true, Bool.not_eq_true', decide_eq_false_iff_not, decide_eq_true_eq] at hh
    have hid : 1 ≤ id ∧ id ≤ 4 := by simpa [within] using hh.1.1.1
    split
    · rename_i n v hn hv
      have hi := node_id h hid hn
      have hN := h.nodes _ n hn
      refine ⟨(putF_eb _ _ _).1, (putF_eb _ _ _).2, ?_⟩
      rcases putF_log w (id - 1).toNat (hearF n v) with e | ⟨hx, e⟩
      · exact .inl e
      · exact .inr ⟨_, e, by rw [hear_by hx, hi]; exact hh.1.1.2, by rw [hear_last hx, hN.ep]⟩
    · exact Sent.refl w
  · exact Sent.refl w
theorem Sent.propose {w : Wrld} (h : Inv w) (id : Int) (p : Pay) : Sent w (wproposeF w id p) := by
  unfold wproposeF
  split
  · rename_i hh
    simp only [honestB, Bool.and_eq_true, Bool.not_eq_true', decide_eq_false_iff_not, decide_eq_true_eq] at hh
    have hid : 1 ≤ id ∧ id ≤ 4 := by simpa [within] using hh.1.1.1
    split
    · rename_i n hn
      have hi := node_id h hid hn
      have hN := h.nodes _ n hn
      refine ⟨(putF_eb _ _ _).1, (putF_eb _ _ _).2, ?_⟩
      rcases putF_log w (id - 1).toNat (proposeF n p) with e | ⟨hx, e⟩
      · exact .inl e
      · exact .inr ⟨_, e, by rw [propose_by hx, hi]; exact hh.1.1.2, by rw [propose_last hx, hN.ep]⟩
    · exact Sent.refl w
  · exact Sent.refl w
/-- An epoch that began with these votes sent. -/
structure Ep (L0 : List Vote) (e bad : Int) (w : Wrld) : Prop where
  inv : Inv w
  ep : w.epoch = e
  bd : w.bad = bad
  new : ∃ N, w.log = L0 ++ N ∧ ∀ v ∈ N, v.by_ ≠ bad ∧ lastEp v.chain = e
theorem Ep.sent {L0 : List Vote} {e bad : Int} {w w' : Wrld} (h : Ep L0 e bad w) (hI : Inv w') (hs : Sent w w') : Ep L0 e bad w' := by
  obtain ⟨N, hN, hv⟩ := h.new
  refine ⟨hI, by rw [hs.1, h.ep], by rw [hs.2.1, h.bd], ?_⟩
  rcases hs.2.2 with e' | ⟨v, e', h1, h2⟩
  · exact ⟨N, by rw [e', hN], hv⟩
  · refine ⟨N ++ [v], by rw [e', hN, List.append_assoc], fun u hu => ?_⟩
    rcases List.mem_append.1 hu with hu | hu
    · exact hv u hu
    · simp at hu; subst hu
      exact ⟨by rw [← h.bd]; exact h1, by rw [← h.ep]; exact h2⟩
theorem Ep.bring {L0 : List Vote} {e bad : Int} {w : Wrld} (h : Ep L0 e bad w) (a id : Int) : Ep L0 e bad (wbringF w a id) := h.sent (h.inv.bring a id) (Sent.bring h.inv a id)
theorem Ep.propose {L0 : List Vote} {e bad : Int} {w : Wrld} (h : Ep L0 e bad w) (id : Int) (p : Pay) : Ep L0 e bad (wproposeF w id p) := h.sent (h.inv.propose id p) (Sent.propose h.inv id p)
theorem Ep.b4 {L0 : List Vote} {e bad : Int} {w : Wrld} (h : Ep L0 e bad w) (a : Int) : Ep L0 e bad (b4 w a) := (((h.bring a 1).bring a 2).bring a 3).bring a 4
theorem log_nodup {w : Wrld} (h : Inv w) : w.log.Nodup := (votesOk_iff.1 h.ok.log).2
/-- Each sends one at most. -/
theorem Ep.four {L0 : List Vote} {e bad : Int} {w : Wrld} (h : Ep L0 e bad w) : w.log.length ≤ L0.length + 4 := by
  obtain ⟨N, hN, hv⟩ := h.new
  have hnd := log_nodup h.inv
  rw [hN, List.nodup_append] at hnd
  have hm : ∀ v ∈ N, v ∈ w.log := fun v hv' => by rw [hN]; exact List.mem_append_right _ hv'
  have hinj := map_nodup Vote.by_ N hnd.2.1 fun u hu v hv' e' => h.inv.safe.one u (hm u hu) v (hm v hv') e' (by rw [h.bd]; exact (hv u hu).1) (by rw [(hv u hu).2, (hv v hv').2])
  have hle := nodup_len (N.map Vote.by_) [1, 2, 3, 4] hinj fun x hx => by
    obtain ⟨v, hv', rfl⟩ := List.mem_map.1 hx
    have := votesOk_mem h.inv.ok.log v (hm v hv')
    simp only [voteOk, Bool.and_eq_true, within, decide_eq_true_eq] at this
    have h1 := this.1.1
    simp only [List.mem_cons, List.not_mem_nil, or_false]
    omega
  rw [hN, List.length_append]
  simp at hle
  omega
theorem Ep.tick {w : Wrld} (h : Inv w) (h30 : w.epoch + 1 ≤ 30) : Ep w.log (w.epoch + 1) w.bad (tickF w) :=
  ⟨h.tick, by show min (w.epoch + 1) 30 = _; omega, rfl, [], by simp [tickF], fun v hv => by cases hv⟩
theorem Grw.bring (w : Wrld) (a id : Int) : Grw w (wbringF w a id) := Grw.do w ⟨3, a, id, .zero, .zero⟩
theorem Grw.propose (w : Wrld) (id : Int) (p : Pay) : Grw w (wproposeF w id p) := Grw.do w ⟨2, id, 0, p, .zero⟩
theorem Grw.tick (w : Wrld) : Grw w (tickF w) := Grw.do w ⟨1, 0, 0, .zero, .zero⟩
theorem Grw.b4 (w : Wrld) (a : Int) : Grw w (b4 w a) := (((Grw.bring w a 1).trans (Grw.bring _ a 2)).trans (Grw.bring _ a 3)).trans (Grw.bring _ a 4)
/-- Who is brought a vote has seen it. -/
theorem hearF_has {n : Nod} {v : Vote} (hv : voteOk v = true) (hb : v.by_ ≠ n.id) (hl : n.seen.length < 80) : v ∈ (hearF n v).1.seen := by
  have hs : v ∈ (seeF n v).seen := by
    unfold seeF
    split
    · rename_i h; simpa using h
    · simp
  unfold hearF
  rw [if_pos (by simp [hv, hb, hl])]
  split
  · exact tryF_seen _ _ _ hs
  · exact hs
theorem seen_le {w : Wrld} (h : Inv w) {k : Nat} {n : Nod} (hn : w.nodes[k]? = some n) (hb : (k : Int) + 1 ≠ w.bad) : n.seen.length ≤ w.log.length := by
  have hN := h.nodes k n hn
  exact nodup_len _ _ (votesOk_iff.1 (nodeOk_seen (h.ok.nodes n (List.mem_of_getElem? hn))).1).2 (hN.sub (by rw [hN.id]; exact hb))
theorem node_at {w : Wrld} (h : Inv w) {k : Nat} (hk : k < 4) : ∃ n, w.nodes[k]? = some n := ⟨_, List.getElem?_eq_getElem (by have := h.ok.four; omega)⟩
theorem bring_has {w : Wrld} (h : Inv w) {a k : Nat} {v : Vote} (hk : k < 4) (hb : (k : Int) + 1 ≠ w.bad) (ha : w.log[a]? = some v) (hl : w.log.length < 80) : ∃ n, (wbringF w a ((k : Int) + 1)).nodes[k]? = some n ∧ v ∈ n.seen := by
  obtain ⟨n, hn⟩ := node_at h hk
  have hN := h.nodes k n hn
  have hk' : ((k : Int) + 1 - 1).toNat = k := by omega
  have hal := (List.getElem?_eq_some_iff.1 ha).1
  have hidb : n.id ≠ w.bad := by rw [hN.id]; exact hb
  unfold wbringF
  rw [if_pos (by simp only [honestB, within, Bool.and_eq_true, decide_eq_true_eq, Bool.not_eq_true', decide_eq_false_iff_not]; omega), hk', hn]
  simp only [Int.toNat_natCast, ha]
  refine ⟨(hearF n v).1, by rw [put_nodes', List.getElem?_set_self (by have := h.ok.four; omega)], ?_⟩
  by_cases hby : v.by_ = n.id
  · exact hearF_seen n v v (hN.own hidb v (List.mem_of_getElem? ha) hby)
  · exact hearF_has (votesOk_mem h.ok.log v (List.mem_of_getElem? ha)) hby (by have := seen_le h hn hb; omega)
/-- All that do not lie have seen what was sent first. -/
def Had (a : Nat) (w : Wrld) : Prop := ∀ (j : Nat) (v : Vote), j < a → w.log[j]? = some v → ∀ (k : Nat) (n : Nod), w.nodes[k]? = some n → (k : Int) + 1 ≠ w.bad → v ∈ n.seen
theorem Grw.node {w w' : Wrld} (h : Grw w w') (hI : Inv w) (hI' : Inv w') {k : Nat} {v : Vote} (hx : ∃ n, w.nodes[k]? = some n ∧ v ∈ n.seen) : ∃ n, w'.nodes[k]? = some n ∧ v ∈ n.seen := by
  obtain ⟨n, hn, hv⟩ := hx
  obtain ⟨m, hm, hs⟩ := h.seen k n hn
  exact ⟨m, hm, hs v hv⟩
def LogPre (w w' : Wrld) : Prop := ∃ N, w'.log = w.log ++ N
theorem LogPre.refl (w : Wrld) : LogPre w w := ⟨[], by simp⟩
theorem LogPre.trans {a b c : Wrld} (h : LogPre a b) (k : LogPre b c) : LogPre a c := by
  obtain ⟨N, h⟩ := h
  obtain ⟨M, k⟩ := k
  exact ⟨N ++ M, by rw [k, h, List.append_assoc]⟩
theorem Sent.pre {w w' : Wrld} (h : Sent w w') : LogPre w w' := by
  rcases h.2.2 with e | ⟨v, e, _⟩
  · exact ⟨[], by simp [e]⟩
  · exact ⟨[v], e⟩
theorem LogPre.at {w w' : Wrld} (h : LogPre w w') {j : Nat} {v : Vote} (hj : w.log[j]? = some v) : w'.log[j]? = some v := by
  obtain ⟨N, h⟩ := h
  rw [h, List.getElem?_append_left (List.getElem?_eq_some_iff.1 hj).1, hj]
theorem b4_has {L0 : List Vote} {e bad : Int} {w : Wrld} (h : Ep L0 e bad w) (hL : L0.length + 4 < 80) {a k : Nat} {v : Vote} (hk : k < 4) (hb : (k : Int) + 1 ≠ bad) (ha : w.log[a]? = some v) : ∃ n, (b4 w a).nodes[k]? = some n ∧ v ∈ n.seen := by
  have e1 := h.bring a 1
  have e2 := e1.bring a 2
  have e3 := e2.bring a 3
  have e4 := e3.bring a 4
  have a1 := (Sent.bring h.inv a 1).pre.at ha
  have a2 := (Sent.bring e1.inv a 2).pre.at a1
  have a3 := (Sent.bring e2.inv a 3).pre.at a2
  have l0 := h.four
  have l1 := e1.four
  have l2 := e2.four
  have l3 := e3.four
  have hcase : k = 0 ∨ k = 1 ∨ k = 2 ∨ k = 3 := by omega
  rcases hcase with rfl | rfl | rfl | rfl
  · exact ((Grw.bring _ a 2).trans ((Grw.bring _ a 3).trans (Grw.bring _ a 4))).node e1.inv e4.inv (bring_has h.inv (k := 0) (by omega) (by rw [h.bd]; exact hb) ha (by omega))
  · exact ((Grw.bring _ a 3).trans (Grw.bring _ a 4)).node e2.inv e4.inv (bring_has e1.inv (k := 1) (by omega) (by rw [e1.bd]; exact hb) a1 (by omega))
  · exact (Grw.bring _ a 4).node e3.inv e4.inv (bring_has e2.inv (k := 2) (by omega) (by rw [e2.bd]; exact hb) a2 (by omega))
  · exact bring_has e3.inv (k := 3) (by omega) (by rw [e3.bd]; exact hb) a3 (by omega)
theorem b4_pre {L0 : List Vote} {e bad : Int} {w : Wrld} (h : Ep L0 e bad w) (a : Int) : LogPre w (b4 w a) :=
  (((Sent.bring h.inv a 1).pre.trans (Sent.bring (h.bring a 1).inv a 2).pre).trans (Sent.bring ((h.bring a 1).bring a 2).inv a 3).pre).trans (Sent.bring (((h.bring a 1).bring a 2).bring a 3).inv a 4).pre
theorem Had.b4 {L0 : List Vote} {e bad : Int} {w : Wrld} (h : Ep L0 e bad w) (hL : L0.length + 4 < 80) {a : Nat} (ha : a < w.log.length) (hh : Had a w) : Had (a + 1) (b4 w a) := fun j v hj hv k n hn hb => by
  have h' := h.b4 a
  have hk : k < 4 := by have := h'.inv.ok.four; have := (List.getElem?_eq_some_iff.1 hn).1; omega
  have hjl : j < w.log.length := by omega
  have hv0 : w.log[j]? = some w.log[j] := List.getElem?_eq_getElem hjl
  have hv1 := (b4_pre h a).at hv0
  rw [hv] at hv1
  injection hv1 with hv1
  rw [← hv1] at hv0
  have hbad : (k : Int) + 1 ≠ bad := by rw [← h'.bd]; exact hb
  by_cases e : j = a
  · subst e
    obtain ⟨m, hm, hmv⟩ := b4_has h hL hk hbad hv0
    rw [hn] at hm; injection hm with hm; subst hm; exact hmv
  · obtain ⟨n0, hn0⟩ := node_at h.inv hk
    have := hh j v (by omega) hv0 k n0 hn0 (by rw [h.bd]; exact hbad)
    obtain ⟨m, hm, hmv⟩ := (Grw.b4 w a).node h.inv h'.inv ⟨n0, hn0, this⟩
    rw [hn] at hm; injection hm with hm; subst hm; exact hmv
end Go.Wt
namespace Go.Wt
/-! ### What comes late -/
def lateF (w : Wrld) (id : Int) : Nat → Wrld
  | 0 => w
  | k + 1 => doF (lateF w id k) ⟨3, (k : Int), id, .zero, .zero⟩
end Go.Wt
namespace Go.Wt
/-! ### Room for so many epochs -/
def roomB (w : Wrld) (k : Nat) : Bool := decide (w.epoch + (k : Int) ≤ 30) && decide ((w.log.length : Int) + 4 * (k : Int) < 80) && w.log.all fun v => decide ((v.chain.length : Int) + (k : Int) ≤ 16)
structure Small (w : Wrld) : Prop where
  e1 : -1000000 ≤ w.epoch ∧ w.epoch ≤ 1000000
  e2 : w.log.length ≤ 1000000
  e3 : ∀ v ∈ w.log, v.chain.length ≤ 1000000
end Go.Wt

/- In three quiet epochs of leaders that do not lie more becomes final. -/
set_option linter.unusedVariables false
set_option linter.unusedSimpArgs false
namespace Go.Wt
/-! ### What is voted for in an epoch whose leader does not lie -/
/-! ### Who has voted -/
/-- Who says it has voted in this epoch has sent a vote of this epoch. -/
def Vd (w : Wrld) : Prop := ∀ (k : Nat) (n : Nod), w.nodes[k]? = some n → (k : Int) + 1 ≠ w.bad → n.voted = w.epoch → ∃ v ∈ w.log, v.by_ = (k : Int) + 1 ∧ lastEp v.chain = w.epoch
theorem Vd.put {w : Wrld} {k : Nat} {n m : Nod} {c : List Itm} (h : Vd w) (hI : Inv w) (hn : w.nodes[k]? = some n) (hm : m.voted = n.voted) (hid : m.id = n.id) (hme : m.epoch = w.epoch) (hl : w.log.length < 80) (x : Nod × Vote × Bool) (hx : x = (m, .zero, false) ∨ (x = voteF m c ∧ lastEp c = w.epoch)) : Vd (putF w k x) := fun j a hj hb hv => by
  have hid' := (hI.nodes k n hn).id
  have hk := (List.getElem?_eq_some_iff.1 hn).1
  rw [(putF_eb _ _ _).1] at hv ⊢
  rw [(putF_eb _ _ _).2] at hb
  rw [put_nodes'] at hj
  have hgrow : ∀ v ∈ w.log, v ∈ (putF w k x).log := fun v hv => by
    rcases putF_log w k x with e | ⟨_, e⟩
    · rw [e]; exact hv
    · rw [e]; exact List.mem_append_left _ hv
  by_cases e : j = k
  · subst e
    rw [List.getElem?_set_self hk] at hj
    injection hj with hj
    rcases hx with hx | ⟨hx, hc⟩
    · rw [hx] at hj; subst hj
      obtain ⟨v, h1, h2⟩ := h j n hn hb (by rw [← hm]; exact hv)
      exact ⟨v, hgrow v h1, h2⟩
    · by_cases hs : m.seen.length < 80
      · rw [voteF_yes hs] at hx
        refine ⟨⟨m.id, c⟩, ?_, by rw [hid, hid'], hc⟩
        rw [hx]
        simp only [putF, if_true, sendF]
        split
        · exact List.mem_append_right _ (by simp)
        · rename_i hh
          simp only [hl, decide_true, Bool.and_true, Bool.not_eq_true', decide_eq_false_iff_not, Decidable.not_not] at hh
          exact hh
      · rw [voteF_no hs] at hx
        rw [hx] at hj; subst hj
        obtain ⟨v, h1, h2⟩ := h j n hn hb (by rw [← hm]; exact hv)
        exact ⟨v, hgrow v h1, h2⟩
  · rw [List.getElem?_set_ne (Ne.symm e)] at hj
    obtain ⟨v, h1, h2⟩ := h j a hj hb hv
    exact ⟨v, hgrow v h1, h2⟩
theorem seeF_voted (n : Nod) (v : Vote) : (seeF n v).voted = n.voted := by unfold seeF; split <;> rfl
theorem hear_cases {n : Nod} {v : Vote} (hn : nodeOk n = true) : ∃ m c, (m = n ∨ (m = seeF n v ∧ voteOk v = true ∧ v.by_ ≠ n.id ∧ n.seen.length < 80)) ∧ (hearF n v = (m, .zero, false) ∨ (hearF n v = voteF m c ∧ lastEp c = n.epoch ∧ m = seeF n v ∧ mayN n = true)) := by
  unfold hearF
  split
  · rename_i hc
    simp only [Bool.and_eq_true, Bool.not_eq_true', decide_eq_false_iff_not, decide_eq_true_eq] at hc
    have hmo := seeF_nok hn hc.1.1 hc.1.2 hc.2
    split
    · rename_i hmay
      have hmay' : mayN n = true := by
        simp only [mayN] at hmay ⊢
        rw [(seeF_epoch n v).1, seeF_voted] at hmay; exact hmay
      rcases try_cases (seeF n v) hmay (votesOk_mem (nodeOk_iff.1 hmo).1.2.2.2.2) _ (fun _ h => h) with e | ⟨c, hc', e⟩
      · exact ⟨seeF n v, [], .inr ⟨rfl, hc.1.1, hc.1.2, hc.2⟩, .inl e⟩
      · exact ⟨seeF n v, c, .inr ⟨rfl, hc.1.1, hc.1.2, hc.2⟩, .inr ⟨e, by rw [hc'.last, (seeF_epoch n v).1], rfl, hmay'⟩⟩
    · exact ⟨seeF n v, [], .inr ⟨rfl, hc.1.1, hc.1.2, hc.2⟩, .inl rfl⟩
  · exact ⟨n, [], .inl rfl, .inl rfl⟩
theorem Vd.bring {w : Wrld} (h : Vd w) (hI : Inv w) (a id : Int) : Vd (wbringF w a id) := by
  unfold wbringF
  split
  · rename_i hh
    simp only [honestB, Bool.and_eq_true, Bool.not_eq_true', decide_eq_false_iff_not, decide_eq_true_eq] at hh
    split
    · rename_i n v hn hv
      have hN := hI.nodes _ n hn
      obtain ⟨m, c, hm, hx⟩ := hear_cases (v := v) (hI.ok.nodes n (List.mem_of_getElem? hn))
      have hm' : m.voted = n.voted ∧ m.id = n.id ∧ m.epoch = w.epoch := by
        rcases hm with rfl | ⟨rfl, _⟩
        · exact ⟨rfl, rfl, hN.ep⟩
        · exact ⟨seeF_voted n v, (seeF_epoch n v).2.1, by rw [(seeF_epoch n v).1, hN.ep]⟩
      refine h.put (c := c) hI hn hm'.1 hm'.2.1 hm'.2.2 hh.1.2 _ ?_
      rcases hx with hx | ⟨hx, hc, _⟩
      · exact .inl hx
      · exact .inr ⟨hx, by rw [hc, hN.ep]⟩
    · exact h
  · exact h
theorem Vd.propose {w : Wrld} (h : Vd w) (hI : Inv w) (id : Int) (p : Pay) : Vd (wproposeF w id p) := by
  unfold wproposeF
  split
  · rename_i hh
    simp only [honestB, Bool.and_eq_true, Bool.not_eq_true', decide_eq_false_iff_not, decide_eq_true_eq] at hh
    split
    · rename_i n hn
      have hN := hI.nodes _ n hn
      rcases propose_cases n p with e | ⟨c, hc, e⟩
      · exact h.put (c := []) hI hn rfl rfl hN.ep hh.1.2 _ (.inl e)
      · exact h.put (c := c) hI hn rfl rfl hN.ep hh.1.2 _ (.inr ⟨e, by rw [hc.last, hN.ep]⟩)
    · exact h
  · exact h
theorem Vd.b4 {w : Wrld} (h : Vd w) (hI : Inv w) (a : Int) : Vd (b4 w a) := (((h.bring hI a 1).bring (hI.bring a 1) a 2).bring ((hI.bring a 1).bring a 2) a 3).bring (((hI.bring a 1).bring a 2).bring a 3) a 4
theorem Inv.b4 {w : Wrld} (hI : Inv w) (a : Int) : Inv (b4 w a) := (((hI.bring a 1).bring a 2).bring a 3).bring a 4
theorem Vd.spr : ∀ (n a : Nat) {w : Wrld}, Vd w → Inv w → Vd (sprF n a w)
  | 0, a, w, h, hI => h
  | n + 1, a, w, h, hI => by
    by_cases ha : a < w.log.length
    · rw [sprF_go ha]; exact Vd.spr n (a + 1) (h.b4 hI a) (hI.b4 a)
    · rw [sprF_stop ha]; exact h
theorem Vd.tick {w : Wrld} (h : Inv w) (h30 : w.epoch + 1 ≤ 30) : Vd (tickF w) := fun k n hn hb hv => by
  exfalso
  have he : (tickF w).epoch = w.epoch + 1 := by show min (w.epoch + 1) 30 = _; omega
  obtain ⟨m, hm⟩ := node_at h (k := k) (by have := h.tick.ok.four; have := (List.getElem?_eq_some_iff.1 hn).1; omega)
  have hn' : (tickF w).nodes[k]? = some (enterF m (min (w.epoch + 1) 30)) := by
    show (w.nodes.map _)[k]? = _
    rw [List.getElem?_map, hm]; rfl
  rw [hn] at hn'
  injection hn' with hn'
  have hN := h.nodes k m hm
  have ht := tick_epoch h.ok.ep hN.ep
  have hvo := (nodeOk_iff.1 (h.ok.nodes m (List.mem_of_getElem? hm))).1.2.2.1
  rw [hn', ht.2.2.2, he] at hv
  have := hN.ep
  omega
end Go.Wt

/- An epoch of a leader that does not lie makes one chain longest. -/
set_option linter.unusedVariables false
set_option linter.unusedSimpArgs false
namespace Go.Wt
theorem voters_nodup (l : List Vote) (c : List Itm) : (voters l c).Nodup := (List.filter_sublist).nodup (by decide)
theorem voters_other {l : List Vote} {c : List Itm} (x y : Int) (h : 3 ≤ (voters l c).length) : ∃ n, n ≠ x ∧ n ≠ y ∧ Vote.mk n c ∈ l := by
  by_cases hh : ∃ n ∈ voters l c, n ≠ x ∧ n ≠ y
  · obtain ⟨n, hn, h1, h2⟩ := hh
    exact ⟨n, h1, h2, (voters_mem.1 hn).2⟩
  · have := nodup_len (voters l c) [x, y] (voters_nodup l c) fun n hn => by
      simp only [List.mem_cons, List.not_mem_nil, or_false]
      by_cases h1 : n = x
      · exact .inl h1
      · by_cases h2 : n = y
        · exact .inr h2
        · exact absurd ⟨n, hn, h1, h2⟩ hh
    simp at this
    omega
/-- All that was sent in an epoch of a leader that does not lie is for one chain. -/
theorem allc {L0 : List Vote} {e bad : Int} {w : Wrld} {c : List Itm} (h : Ep L0 e bad w) (hl : leader e ≠ bad) (hc : Vote.mk (leader e) c ∈ w.log) (he : lastEp c = e) {v : Vote} (hv : v ∈ w.log) : v ∈ L0 ∨ v.chain = c := by
  by_cases h0 : v ∈ L0
  · exact .inl h0
  · obtain ⟨N, hN, hn⟩ := h.new
    have hvN : v ∈ N := by
      rw [hN] at hv
      rcases List.mem_append.1 hv with hv | hv
      · exact absurd hv h0
      · exact hv
    obtain ⟨hb, hvl⟩ := hn v hvN
    obtain ⟨i, hi⟩ := List.mem_iff_getElem?.1 hv
    have := h.inv.ord i v hi (by rw [h.bd]; exact hb)
    rw [hvl] at this
    have := h.inv.safe.one _ (List.mem_of_mem_take this) _ hc rfl (by rw [h.bd]; exact hl) (by rw [hvl, he])
    injection this with _ this
    exact .inr this
/-- With votes for one chain more, what is sure was sure, or has this one in it. -/
theorem sure_old {l L0 : List Vote} {c d : List Itm} (h : ∀ v ∈ l, v ∈ L0 ∨ v.chain = c) (hs : sure l d = true) (hn : ∀ j, 0 < j → j ≤ d.length → d.take j ≠ c) : sure L0 d = true := by
  rw [sure_iff] at hs ⊢
  intro j h1 h2
  refine Nat.le_trans (hs j h1 h2) (filter_len_mono (fun n hv => ?_) _)
  simp only [decide_eq_true_eq] at hv ⊢
  rcases h _ hv with h3 | h3
  · exact h3
  · exact absurd h3 (hn j h1 h2)
structure Top (w : Wrld) (c : List Itm) : Prop where
  sure : sure w.log c = true
  top : ∀ d, Wt.sure w.log d = true → d = c ∨ d.length < c.length
/-- Room for so many epochs. -/
structure RoomP (k : Nat) (w : Wrld) : Prop where
  ep : w.epoch + k ≤ 30
  log : w.log.length + 4 * k < 80
  len : ∀ v ∈ w.log, v.chain.length + k ≤ 16
/-! ### What the leader's proposal does -/
/-- This node has voted for it, or has seen nothing else than what there was. -/
def Un (L0 : List Vote) (c : List Itm) (w : Wrld) (k : Nat) : Prop := Vote.mk ((k : Int) + 1) c ∈ w.log ∨ ∃ n, w.nodes[k]? = some n ∧ ∀ v, v ∈ n.seen ↔ v ∈ L0
structure Pr (L0 : List Vote) (e bad : Int) (t : List Itm) (p : Pay) (w : Wrld) : Prop where
  ep : Ep L0 e bad w
  vd : Vd w
  lead : leader e ≠ bad
  e1 : 1 ≤ e
  room : L0.length + 4 < 80
  old : ∀ v ∈ L0, v.by_ ≠ bad → lastEp v.chain < e
  has : w.log[L0.length]? = some ⟨leader e, t ++ [⟨e, p⟩]⟩
  ts : sure L0 t = true
  tm : ∀ d, sure L0 d = true → d.length ≤ t.length
theorem Pr.mem {L0 : List Vote} {e bad : Int} {t : List Itm} {p : Pay} {w : Wrld} (h : Pr L0 e bad t p w) : Vote.mk (leader e) (t ++ [⟨e, p⟩]) ∈ w.log := List.mem_of_getElem? h.has
theorem Pr.all {L0 : List Vote} {e bad : Int} {t : List Itm} {p : Pay} {w : Wrld} (h : Pr L0 e bad t p w) {v : Vote} (hv : v ∈ w.log) : v ∈ L0 ∨ v.chain = t ++ [⟨e, p⟩] := allc h.ep h.lead h.mem (lastEp_snoc _ _) hv
theorem Pr.bring {L0 : List Vote} {e bad : Int} {t : List Itm} {p : Pay} {w : Wrld} (h : Pr L0 e bad t p w) (a id : Int) : Pr L0 e bad t p (wbringF w a id) :=
  ⟨h.ep.bring a id, h.vd.bring h.ep.inv a id, h.lead, h.e1, h.room, h.old, (Sent.bring h.ep.inv a id).pre.at h.has, h.ts, h.tm⟩
theorem tryF_some {n : Nod} : ∀ {l : List Vote} {u : Vote}, u ∈ l → fits n u = true → ∃ u' : Vote, lastEp u'.chain = n.epoch ∧ tryF n l = voteF n u'.chain
  | x :: r, u, hu, hf => by
    by_cases hx : fits n x = true
    · refine ⟨x, ?_, by simp only [tryF]; rw [if_pos hx]⟩
      simp only [fits, Bool.and_eq_true, decide_eq_true_eq] at hx
      exact hx.1.1.2
    · rcases List.mem_cons.1 hu with e | hu
      · subst e; exact absurd hf hx
      · obtain ⟨u', h1, h2⟩ := tryF_some hu hf
        exact ⟨u', h1, by simp only [tryF]; rw [if_neg hx]; exact h2⟩
theorem put_vote {w : Wrld} {k : Nat} {m : Nod} {c : List Itm} (hs : m.seen.length < 80) (hl : w.log.length < 80) : Vote.mk m.id c ∈ (putF w k (voteF m c)).log := by
  rw [voteF_yes hs]
  simp only [putF, if_true, sendF]
  split
  · exact List.mem_append_right _ (by simp)
  · rename_i hh
    simp only [hl, decide_true, Bool.and_true, Bool.not_eq_true', decide_eq_false_iff_not, Decidable.not_not] at hh
    exact hh
theorem Pr.bringU {L0 : List Vote} {e bad : Int} {t : List Itm} {p : Pay} {w : Wrld} (h : Pr L0 e bad t p w) {k a : Nat} {v : Vote} {id : Int} (hk : k < 4) (hb : (k : Int) + 1 ≠ bad) (hL : (k : Int) + 1 ≠ leader e) (hu : Un L0 (t ++ [⟨e, p⟩]) w k) (ha : w.log[a]? = some v) (hv : v ∈ L0 ∨ v = ⟨leader e, t ++ [⟨e, p⟩]⟩) :
    Un L0 (t ++ [⟨e, p⟩]) (wbringF w a id) k ∧ (id = (k : Int) + 1 → v = ⟨leader e, t ++ [⟨e, p⟩]⟩ → Vote.mk ((k : Int) + 1) (t ++ [⟨e, p⟩]) ∈ (wbringF w a id).log) := by
  have h' := h.bring a id
  have hpre := (Sent.bring h.ep.inv a id).pre
  have hlog := h.ep.four
  have hroom := h.room
  by_cases hin : Vote.mk ((k : Int) + 1) (t ++ [⟨e, p⟩]) ∈ w.log
  · have : Vote.mk ((k : Int) + 1) (t ++ [⟨e, p⟩]) ∈ (wbringF w a id).log := by
      obtain ⟨N, hN⟩ := hpre
      rw [hN]; exact List.mem_append_left _ hin
    exact ⟨.inl this, fun _ _ => this⟩
  · rcases hu with hu | ⟨n, hn, hseen⟩
    · exact absurd hu hin
    · -- a vote of this node of this epoch is for the chain
      have hown : ∀ {w' : Wrld} {c' : List Itm}, Pr L0 e bad t p w' → Vote.mk ((k : Int) + 1) c' ∈ w'.log → lastEp c' = e → Vote.mk ((k : Int) + 1) (t ++ [⟨e, p⟩]) ∈ w'.log := fun {w'} {c'} hp hm hl => by
        rcases hp.all hm with h1 | h1
        · have := hp.old _ h1 hb
          simp only at this
          omega
        · simp only at h1; rw [← h1]; exact hm
      have hN := h.ep.inv.nodes k n hn
      have hno := h.ep.inv.ok.nodes n (List.mem_of_getElem? hn)
      have hnl : n.seen.length < 80 := by have := seen_le h.ep.inv hn (by rw [h.ep.bd]; exact hb); omega
      have hvot : n.voted ≠ e := fun hv => by
        obtain ⟨u, h1, h2, h3⟩ := h.vd k n hn (by rw [h.ep.bd]; exact hb) (by rw [h.ep.ep]; exact hv)
        rw [h.ep.ep] at h3
        obtain ⟨ub, uc⟩ := u
        simp only at h2 h3
        subst h2
        exact hin (hown h h1 h3)
      by_cases hid : id = (k : Int) + 1
      · subst hid
        have hk' : ((k : Int) + 1 - 1).toNat = k := by omega
        have hal := (List.getElem?_eq_some_iff.1 ha).1
        have heq : wbringF w a ((k : Int) + 1) = putF w k (hearF n v) := by
          unfold wbringF
          rw [if_pos (by simp only [honestB, within, Bool.and_eq_true, decide_eq_true_eq, Bool.not_eq_true', decide_eq_false_iff_not, h.ep.bd]; omega), hk', hn]
          simp only [Int.toNat_natCast, ha]
        rw [heq] at h' ⊢
        have hkl := (List.getElem?_eq_some_iff.1 hn).1
        have hstay : hearF n v = (n, .zero, false) → Un L0 (t ++ [⟨e, p⟩]) (putF w k (hearF n v)) k := fun e' => by
          rw [e']
          exact .inr ⟨n, by rw [put_nodes', List.getElem?_set_self hkl], hseen⟩
        by_cases hvL : v = ⟨leader e, t ++ [⟨e, p⟩]⟩
        · -- it votes now
          have hby : v.by_ ≠ n.id := by rw [hvL, hN.id]; exact fun e' => hL e'.symm
          have hvo := votesOk_mem h.ep.inv.ok.log v (List.mem_of_getElem? ha)
          have hvn : v ∉ n.seen := fun hm => by
            have := h.old v ((hseen v).1 hm) (by rw [hvL]; exact h.lead)
            rw [hvL, lastEp_snoc] at this
            simp at this
          have hsee : seeF n v = { n with seen := n.seen ++ [v] } := by unfold seeF; rw [if_neg (by simpa using hvn)]
          have hmay : mayN (seeF n v) = true := by
            simp only [mayN, (seeF_epoch n v).1, seeF_voted, hN.ep, h.ep.ep, Bool.and_eq_true, decide_eq_true_eq, bne_iff_ne]
            exact ⟨by have := h.e1; omega, hvot⟩
          have hmem : ∀ u, u ∈ (seeF n v).seen ↔ u ∈ L0 ∨ u = v := fun u => by
            rw [hsee]
            simp only [List.mem_append, List.mem_singleton, hseen]
          have hsub : ∀ u ∈ L0, u ∈ (seeF n v).seen := fun u hu => (hmem u).2 (.inl hu)
          have htip : (tipOf (seeF n v).seen).length = t.length := by
            refine Nat.le_antisymm ?_ (tip_max (sure_mono hsub h.ts))
            refine h.tm _ (sure_old (c := t ++ [⟨e, p⟩]) (fun u hu => ?_) (tip_sure (seeF n v).seen) fun j hj hjl hjc => ?_)
            · rcases (hmem u).1 hu with hu | hu
              · exact .inl hu
              · rw [hu, hvL]; exact .inr rfl
            · have h3 := sure_iff.1 (tip_sure (seeF n v).seen) j hj hjl
              rw [hjc] at h3
              obtain ⟨m, hm1, hm2, hm3⟩ := voters_other (leader e) bad h3
              rcases (hmem _).1 hm3 with h4 | h4
              · have := h.old _ h4 hm2
                simp only [lastEp_snoc] at this
                omega
              · rw [hvL] at h4
                injection h4 with h4
                exact hm1 h4
          have hfit : fits (seeF n v) v = true := by
            simp only [fits, (seeF_epoch n v).1, hN.ep, h.ep.ep, htip, Bool.and_eq_true, decide_eq_true_eq]
            rw [hvL]
            refine ⟨⟨⟨rfl, lastEp_snoc _ _⟩, by simp⟩, ?_⟩
            have : (t ++ [Itm.mk e p]).take ((t ++ [Itm.mk e p]).length - 1) = t := by simp
            simp only [this]
            rw [← hvL]
            exact sure_mono hsub h.ts
          obtain ⟨u', h5, h6⟩ := tryF_some ((hmem v).2 (.inr rfl)) hfit
          have hhear : hearF n v = voteF (seeF n v) u'.chain := by
            unfold hearF
            rw [if_pos (by simp [hvo, hby, hnl]), if_pos hmay, h6]
          have hsl : (seeF n v).seen.length < 80 := by
            have := nodup_len (seeF n v).seen w.log (votesOk_iff.1 (nodeOk_iff.1 (seeF_nok hno hvo hby hnl)).1.2.2.2.2).2 fun u hu => by
              rcases (hmem u).1 hu with hu | hu
              · obtain ⟨N, hN', _⟩ := h.ep.new
                rw [hN']; exact List.mem_append_left _ hu
              · rw [hu]; exact List.mem_of_getElem? ha
            omega
          have hin' := put_vote (w := w) (k := k) (m := seeF n v) (c := u'.chain) hsl (by omega)
          rw [← hhear, (seeF_epoch n v).2.1, hN.id] at hin'
          have := hown h' hin' (by rw [h5, (seeF_epoch n v).1, hN.ep, h.ep.ep])
          exact ⟨.inl this, fun _ _ => this⟩
        · have hv0 : v ∈ L0 := hv.resolve_right hvL
          refine ⟨?_, fun _ e' => absurd e' hvL⟩
          obtain ⟨m, c', hm, hx⟩ := hear_cases (v := v) hno
          have hsee : seeF n v = n := by unfold seeF; rw [if_pos (by simpa using (hseen v).2 hv0)]
          have hm' : m = n := by
            rcases hm with h1 | ⟨h1, _⟩
            · exact h1
            · rw [h1, hsee]
          rw [hm'] at hx
          rcases hx with hx | ⟨hx, hc', _, _⟩
          · exact hstay hx
          · refine .inl (hown h' (c' := c') ?_ (by rw [hc', hN.ep, h.ep.ep]))
            have := put_vote (w := w) (k := k) (m := n) (c := c') hnl (by omega)
            rw [← hx, hN.id] at this
            exact this
      · -- another one is brought it
        refine ⟨.inr ⟨n, ?_, hseen⟩, fun e' => absurd e' hid⟩
        unfold wbringF
        split
        · rename_i hh
          simp only [honestB, Bool.and_eq_true, within, decide_eq_true_eq] at hh
          split
          · rw [put_nodes', List.getElem?_set_ne (by omega)]; exact hn
          · exact hn
        · exact hn
end Go.Wt

/- Eight quiet epochs: more becomes final, by all. -/
set_option linter.unusedVariables false
set_option linter.unusedSimpArgs false
namespace Go.Wt
theorem LogPre.mem {w w' : Wrld} (h : LogPre w w') {v : Vote} (hv : v ∈ w.log) : v ∈ w'.log := by
  obtain ⟨N, h⟩ := h
  rw [h]; exact List.mem_append_left _ hv
theorem spr_pre {L0 : List Vote} {e bad : Int} : ∀ (n a : Nat) {w : Wrld}, Ep L0 e bad w → LogPre w (sprF n a w)
  | 0, a, w, h => LogPre.refl w
  | n + 1, a, w, h => by
    by_cases ha : a < w.log.length
    · rw [sprF_go ha]; exact (b4_pre h a).trans (spr_pre n (a + 1) (h.b4 a))
    · rw [sprF_stop ha]; exact LogPre.refl w
section
variable {L0 : List Vote} {e bad : Int} {t : List Itm} {p : Pay}
/-- All that do not lie, but the leader. -/
def UnAll (L0 : List Vote) (c : List Itm) (e bad : Int) (w : Wrld) : Prop := ∀ k : Nat, k < 4 → (k : Int) + 1 ≠ bad → (k : Int) + 1 ≠ leader e → Un L0 c w k
theorem Pr.b4 {w : Wrld} (h : Pr L0 e bad t p w) (a : Int) : Pr L0 e bad t p (b4 w a) := (((h.bring a 1).bring a 2).bring a 3).bring a 4
theorem Pr.bringAll {w : Wrld} (h : Pr L0 e bad t p w) {a : Nat} {v : Vote} {id : Int} (hu : UnAll L0 (t ++ [⟨e, p⟩]) e bad w) (ha : w.log[a]? = some v) (hv : v ∈ L0 ∨ v = ⟨leader e, t ++ [⟨e, p⟩]⟩) : UnAll L0 (t ++ [⟨e, p⟩]) e bad (wbringF w a id) :=
  fun k hk hb hL => (h.bringU hk hb hL (hu k hk hb hL) ha hv).1
theorem Pr.b4U {w : Wrld} (h : Pr L0 e bad t p w) {a : Nat} {v : Vote} (hu : UnAll L0 (t ++ [⟨e, p⟩]) e bad w) (ha : w.log[a]? = some v) (hv : v ∈ L0 ∨ v = ⟨leader e, t ++ [⟨e, p⟩]⟩) :
    UnAll L0 (t ++ [⟨e, p⟩]) e bad (Wt.b4 w a) ∧ (v = ⟨leader e, t ++ [⟨e, p⟩]⟩ → ∀ k : Nat, k < 4 → (k : Int) + 1 ≠ bad → Vote.mk ((k : Int) + 1) (t ++ [⟨e, p⟩]) ∈ (Wt.b4 w a).log) := by
  have p1 := h.bring a 1
  have p2 := p1.bring a 2
  have p3 := p2.bring a 3
  have p4 := p3.bring a 4
  have a1 := (Sent.bring h.ep.inv a 1).pre.at ha
  have a2 := (Sent.bring p1.ep.inv a 2).pre.at a1
  have a3 := (Sent.bring p2.ep.inv a 3).pre.at a2
  have l2 := (Sent.bring p1.ep.inv a 2).pre
  have l3 := (Sent.bring p2.ep.inv a 3).pre
  have l4 := (Sent.bring p3.ep.inv a 4).pre
  have u1 := h.bringAll (id := 1) hu ha hv
  have u2 := p1.bringAll (id := 2) u1 a1 hv
  have u3 := p2.bringAll (id := 3) u2 a2 hv
  have u4 := p3.bringAll (id := 4) u3 a3 hv
  refine ⟨u4, fun hvL k hk hb => ?_⟩
  by_cases hL : (k : Int) + 1 = leader e
  · rw [hL]; exact p4.mem
  · have hcase : k = 0 ∨ k = 1 ∨ k = 2 ∨ k = 3 := by omega
    rcases hcase with rfl | rfl | rfl | rfl
    · exact (l2.trans (l3.trans l4)).mem ((h.bringU (k := 0) (id := 1) hk hb hL (hu 0 hk hb hL) ha hv).2 rfl hvL)
    · exact (l3.trans l4).mem ((p1.bringU (k := 1) (id := 2) hk hb hL (u1 1 hk hb hL) a1 hv).2 rfl hvL)
    · exact l4.mem ((p2.bringU (k := 2) (id := 3) hk hb hL (u2 2 hk hb hL) a2 hv).2 rfl hvL)
    · exact (p3.bringU (k := 3) (id := 4) hk hb hL (u3 3 hk hb hL) a3 hv).2 rfl hvL
theorem Pr.spr : ∀ (n a : Nat) {w : Wrld}, 80 ≤ n + a → a ≤ L0.length → Pr L0 e bad t p w → UnAll L0 (t ++ [⟨e, p⟩]) e bad w → ∀ k : Nat, k < 4 → (k : Int) + 1 ≠ bad → Vote.mk ((k : Int) + 1) (t ++ [⟨e, p⟩]) ∈ (sprF n a w).log
  | 0, a, w, hf, hal, h, hu => by have := h.room; omega
  | n + 1, a, w, hf, hal, h, hu => fun k hk hb => by
    have hlen := (List.getElem?_eq_some_iff.1 h.has).1
    have ha : a < w.log.length := by omega
    rw [sprF_go ha]
    by_cases e' : a = L0.length
    · have := (h.b4U (a := a) (v := ⟨leader e, t ++ [⟨e, p⟩]⟩) hu (by rw [e']; exact h.has) (.inr rfl)).2 rfl k hk hb
      exact (spr_pre n (a + 1) (h.b4 a).ep).mem this
    · obtain ⟨N, hN, _⟩ := h.ep.new
      have hx : w.log[a]? = some L0[a] := by rw [hN, List.getElem?_append_left (by omega)]; exact List.getElem?_eq_getElem (by omega)
      have := (h.b4U (a := a) hu hx (.inl (List.getElem_mem (by omega)))).1
      exact Pr.spr n (a + 1) (by omega) (by omega) (h.b4 a) this k hk hb
end
/-! ### Eight of them -/
/-- What n quiet epochs do. -/
structure After (k : Nat) (w x : Wrld) : Prop where
  inv : Inv x
  ep : x.epoch = w.epoch + k
  bd : x.bad = w.bad
  sub : ∀ v ∈ w.log, v ∈ x.log
end Go.Wt
namespace Go.Wt
end Go.Wt
namespace Go.Wt
abbrev calmP : Pay := ⟨1, 2, 1⟩
/-- The first that does not lie. -/
def firstI (b : Int) : Int := if b = 1 then 1 else 0
/-- Whether a payment of a later epoch is among the first. -/
def foundF (e : Int) (p : Pay) (f : List Itm) (k : Nat) : Bool := (f.take k).any fun i => decide (e < i.epoch) && decide (i.pay = p)
end Go.Wt

/- Certificates. -/
set_option linter.unusedVariables false
set_option linter.unusedSimpArgs false
namespace Go.Wt
/-- The chain of one of the lists. -/
def preC (c : List Itm) (k : Nat) : List Itm := c.take (c.length - 2 + k)
def votersOkFrom (p : Int) : List Int → Bool
  | [] => true
  | x :: r => within x 1 4 && decide (p < x) && votersOkFrom x r
def votersOk (l : List Int) : Bool := votersOkFrom 0 l && decide (3 ≤ l.length)
def certOk (c : Cert) : Bool := chainOk c.chain && decide (3 ≤ c.chain.length) && decide (finLen c.chain = (c.chain.length : Int) - 1) && decide (c.by_.length = 3) && c.by_.all votersOk
def certFinal (c : Cert) : List Itm := if certOk c then c.chain.take (c.chain.length - 1) else []
def votesAt (c : List Itm) : Nat → List (List Int) → List Vote
  | _, [] => []
  | k, l :: r => l.map (fun n => Vote.mk n (preC c k)) ++ votesAt c (k + 1) r
def certVotes (c : Cert) : List Vote := if certOk c then votesAt c.chain 0 c.by_ else []
def certC (l : List Vote) (c : List Itm) (n : Nat) : Cert := ⟨c.take (n + 1), [voters l (c.take (n - 1)), voters l (c.take n), voters l (c.take (n + 1))]⟩
def certOf (l : List Vote) : Cert × Bool := if votesOk l && decide (finLen (shownOf l) ≠ 0) then (certC l (shownOf l) (finLen (shownOf l)).toNat, true) else (.zero, false)
def worldShown (w : Wrld) (c : Cert) : Bool := worldOk w && certOk c && (certVotes c).all (shownB w)
/-- Votes of the bad one change nothing for those that do not lie. -/
theorem Safe.bad {bad : Int} {L L' : List Vote} (h : Safe bad L) (hl : ∀ v ∈ L', v ∈ L ∨ v.by_ = bad) : Safe bad L' :=
  ⟨fun u hu v hv e hb he => h.one u ((hl u hu).resolve_right hb) v ((hl v hv).resolve_right (by rw [← e]; exact hb)) e hb he,
   fun u hu v hv e hb he => h.long u ((hl u hu).resolve_right hb) v ((hl v hv).resolve_right (by rw [← e]; exact hb)) e hb he⟩
end Go.Wt

/- The form of certificates while they are built. -/
set_option linter.unusedVariables false
set_option linter.unusedSimpArgs false
namespace Go.Wt
open Go
/-- A certificate whose lists have room of their own. -/
structure CertS where
  chain : List Itm
  by_ : OList (List Int)
instance : Enc CertS := isoEnc (fun p => (p.chain, p.by_)) (fun q => ⟨q.1, q.2⟩) (fun _ => rfl) true (fun h => by cases h)
def CertS.zero : CertS := ⟨[], ⟨[], true⟩⟩
instance : ZCells CertS .zero := ⟨ZCells.cs (List Itm × OList (List Int)), fun G w ω => ZCells.rd (α := List Itm × OList (List Int)) G w ω⟩
theorem CertS.l0 : IsLens CertS.chain (fun x y => { x with chain := y }) 0 [0] := (IsLens.fst (List Itm) (OList (List Int))).iso (fun _ => rfl) (fun _ _ => rfl)
theorem CertS.l1 : IsLens CertS.by_ (fun x y => { x with by_ := y }) 1 [1] := (IsLens.snd (List Itm) (OList (List Int))).iso (fun _ => rfl) (fun _ _ => rfl)
theorem CertS.rd {G : Gh} {w : Go.World} {ω : Owner} {c : CertS} {cs : List Value} (h : Enc.rd G w ω c cs) : Enc.rd G w ω (Cert.mk c.chain c.by_.l) cs := by
  obtain ⟨c1, c2, rfl, r1, ⟨a, cap, h1, h2, h3, _⟩⟩ := h
  exact ⟨c1, _, rfl, r1, ⟨a, cap, h1, h2, h3⟩⟩
end Go.Wt

/- Parking of a list's room: a certificate while it is built. -/
set_option linter.unusedVariables false
set_option linter.unusedSimpArgs false
namespace Go.Wt
open Go
variable {P : Program} {S : Nat → Prop} {ops : Array Oper} {st : St}
structure CertH where
  chain : List Itm
  by_ : HList (List Int)
instance : Enc CertH := isoEnc (fun p => (p.chain, p.by_)) (fun q => ⟨q.1, q.2⟩) (fun _ => rfl) true (fun h => by cases h)
instance : Plain CertH := plain_iso _ _ _ (fun _ => rfl) _ _
theorem CertH.l0 : IsLens CertH.chain (fun x y => { x with chain := y }) 0 [0] := (IsLens.fst (List Itm) (HList (List Int))).iso (fun _ => rfl) (fun _ _ => rfl)
theorem CertH.l1 : IsLens CertH.by_ (fun x y => { x with by_ := y }) 1 [1] := (IsLens.snd (List Itm) (HList (List Int))).iso (fun _ => rfl) (fun _ _ => rfl)
theorem CertH.rd {G : Gh} {w : Go.World} {ω : Owner} {c : CertH} {cs : List Value} (h : Enc.rd G w ω c cs) : Enc.rd G w ω (Cert.mk c.chain c.by_.l) cs := by
  obtain ⟨c1, c2, rfl, r1, ⟨h0, a, cap, h1, h2, h3⟩⟩ := h
  exact ⟨c1, c2, rfl, r1, ⟨a, cap, by rw [h0, h1], h2, h3⟩⟩
theorem CertH.conv {c : CertH} : Conv (.v c) (.v (Cert.mk c.chain c.by_.l)) := fun {G w ω ω' u} h => by
  obtain ⟨cs, h1, h2⟩ := h
  exact ⟨cs, Plain.mono (Sh.refl _ _) (CertH.rd h1), h2⟩
end Go.Wt

/- Calls that make rows; structs built of a list with its room. -/
set_option linter.unusedVariables false
set_option linter.unusedSimpArgs false
namespace Go.Wt
open Go
variable {P : Program} {S : Nat → Prop} {ops : Array Oper} {st : St}
/-! ### A world that is built -/
structure WrldH where
  epoch : Int
  nodes : NRef
  log : HList Vote
  bad : Int
instance : Enc WrldH := isoEnc (fun p => (p.epoch, p.nodes, p.log, p.bad)) (fun q => ⟨q.1, q.2.1, q.2.2.1, q.2.2.2⟩) (fun _ => rfl) true (fun h => by cases h)
instance : Disl WrldH := ⟨fun _ => rfl⟩
def WrldH.zero : WrldH := ⟨0, .nil, ⟨[], .slice none 0 0⟩, 0⟩
instance {α : Type} [Enc α] [Plain α] : ZCells (HList α) ⟨[], .slice none 0 0⟩ := ⟨[.slice none 0 0], fun _ _ _ => ⟨rfl, none, 0, rfl, Nat.le_refl _, .inl rfl⟩⟩
instance : ZCells WrldH .zero := ⟨ZCells.cs (Int × NRef × HList Vote × Int), fun G w ω => ZCells.rd (α := Int × NRef × HList Vote × Int) G w ω⟩
theorem WrldH.l0 : IsLens WrldH.epoch (fun x y => { x with epoch := y }) 0 [0] := (IsLens.fst Int (NRef × HList Vote × Int)).iso (fun _ => rfl) (fun _ _ => rfl)
theorem WrldH.l1 : IsLens WrldH.nodes (fun x y => { x with nodes := y }) 1 [1, 0] := ((IsLens.snd Int (NRef × HList Vote × Int)).comp (IsLens.fst _ _)).iso (fun _ => rfl) (fun _ _ => rfl)
theorem WrldH.l2 : IsLens WrldH.log (fun x y => { x with log := y }) 2 [1, 1, 0] := ((IsLens.snd Int (NRef × HList Vote × Int)).comp ((IsLens.snd _ _).comp (IsLens.fst _ _))).iso (fun _ => rfl) (fun _ _ => rfl)
theorem WrldH.l3 : IsLens WrldH.bad (fun x y => { x with bad := y }) 3 [1, 1, 1] := ((IsLens.snd Int (NRef × HList Vote × Int)).comp ((IsLens.snd _ _).comp (IsLens.snd _ _))).iso (fun _ => rfl) (fun _ _ => rfl)
end Go.Wt

/- The reference: votes, nodes and worlds in form; copies. -/
set_option linter.unusedVariables false
set_option linter.unusedSimpArgs false
namespace Go.Proofs.Ytmabpmlcclgecaa
open Go Go.Wt
theorem sVotesOk_ct (l : List Vote) : CtP Try.prog 52 [.v l] (.v (votesOk l)) := by
  refine Ct.intro Try.func52 rfl rfl ?_
  refine awp_bigL 0 rfl (fun hB => ?_)
  all_goals first | refine awp_seq (awp_region (id := 0) ?_) | refine awp_seq (awp_seq (awp_region (id := 0) ?_)) | refine awp_region (id := 0) ?_ | refine awp_seq (awp_seq (awp_seq (awp_region (id := 0) ?_)))
  all_goals refine awpOps_cons (op_as rfl (Conv.of rfl) rfl) ?_
  all_goals refine awpOps_nil ?_
  all_goals first | refine awp_seq (awp_region (id := 1) ?_) | refine awp_seq (awp_seq (awp_region (id := 1) ?_)) | refine awp_region (id := 1) ?_ | refine awp_seq (awp_seq (awp_seq (awp_region (id := 1) ?_)))
  all_goals refine awpOps_cons (op_as rfl (Conv.of rfl) rfl) ?_
  all_goals refine awpOps_nil ?_
  first | refine awp_seq (awp_block ?_) | refine awp_seq (awp_seq (awp_block ?_)) | refine awp_block ?_ | refine awp_seq (awp_seq (awp_seq (awp_block ?_)))
  first | refine awp_seq (awp_loop' (fun n_ s => ∃ (k : Nat), ∃ (hn : n_ + k = l.length), ∃ (hall : votesOk l = votesOkFrom (l.take k) (l.drop k)), s = mkSt 26 [(0, .v l), (3, .v (k : Int))] []) (l.length) ⟨0, by omega, rfl, rfl⟩ (Le.mk rfl (tle rfl (rfl) rfl (tle rfl (rfl) rfl tln)) oln noS) ?_) | refine awp_seq (awp_seq (awp_loop' (fun n_ s => ∃ (k : Nat), ∃ (hn : n_ + k = l.length), ∃ (hall : votesOk l = votesOkFrom (l.take k) (l.drop k)), s = mkSt 26 [(0, .v l), (3, .v (k : Int))] []) (l.length) ⟨0, by omega, rfl, rfl⟩ (Le.mk rfl (tle rfl (rfl) rfl (tle rfl (rfl) rfl tln)) oln noS) ?_)) | refine awp_loop' (fun n_ s => ∃ (k : Nat), ∃ (hn : n_ + k = l.length), ∃ (hall : votesOk l = votesOkFrom (l.take k) (l.drop k)), s = mkSt 26 [(0, .v l), (3, .v (k : Int))] []) (l.length) ⟨0, by omega, rfl, rfl⟩ (Le.mk rfl (tle rfl (rfl) rfl (tle rfl (rfl) rfl tln)) oln noS) ?_ | refine awp_seq (awp_seq (awp_seq (awp_loop' (fun n_ s => ∃ (k : Nat), ∃ (hn : n_ + k = l.length), ∃ (hall : votesOk l = votesOkFrom (l.take k) (l.drop k)), s = mkSt 26 [(0, .v l), (3, .v (k : Int))] []) (l.length) ⟨0, by omega, rfl, rfl⟩ (Le.mk rfl (tle rfl (rfl) rfl (tle rfl (rfl) rfl tln)) oln noS) ?_)))
  rintro n_ s ⟨k, hn, hall, rfl⟩
  all_goals first | refine awp_seq (awp_region (id := 2) ?_) | refine awp_seq (awp_seq (awp_region (id := 2) ?_)) | refine awp_region (id := 2) ?_ | refine awp_seq (awp_seq (awp_seq (awp_region (id := 2) ?_)))
  all_goals first | refine awpOps_cons (op_mv rfl (Conv.of rfl) rfl) ?_ | refine awpOps_cons (op_mvl rfl rfl rfl rfl) ?_ | refine awpOps_cons (op_mvo rfl rfl rfl rfl) ?_
  all_goals first | refine awpOps_cons (op_mv rfl (Conv.of rfl) rfl) ?_ | refine awpOps_cons (op_mvl rfl rfl rfl rfl) ?_ | refine awpOps_cons (op_mvo rfl rfl rfl rfl) ?_
  all_goals first | refine awpOps_cons (op_len sl23 rfl rfl) ?_ | refine awpOps_cons (op_lenA sl23 rfl rfl rfl) ?_
  all_goals refine awpOps_cons (op_lss rfl rfl rfl) ?_
  all_goals refine awpOps_nil ?_
  first | refine awp_seq (awp_cond rfl (fun h => ?_) (fun h => ?_)) | refine awp_seq (awp_seq (awp_cond rfl (fun h => ?_) (fun h => ?_))) | refine awp_cond rfl (fun h => ?_) (fun h => ?_) | refine awp_seq (awp_seq (awp_seq (awp_cond rfl (fun h => ?_) (fun h => ?_))))
  · have hlt : k < l.length := by simpa using h
    have hx : l[k]? = some l[k] := List.getElem?_eq_getElem hlt
    generalize l[k] = x at hx
    have hs := votesOk_drop hx
    refine awp_skip ?_
    first | refine awp_seq (awp_block ?_) | refine awp_seq (awp_seq (awp_block ?_)) | refine awp_block ?_ | refine awp_seq (awp_seq (awp_seq (awp_block ?_)))
    first | refine awp_seq (awp_seq (awp_seq (awp_seq_to (s' := mkSt 26 [(0, .v l), (3, .v (k : Int)), (25, .v (!(voteOk x && !decide (x ∈ l.take k))))] []) ?_ ?_))) | refine awp_seq (awp_seq (awp_seq_to (s' := mkSt 26 [(0, .v l), (3, .v (k : Int)), (25, .v (!(voteOk x && !decide (x ∈ l.take k))))] []) ?_ ?_)) | refine awp_seq (awp_seq_to (s' := mkSt 26 [(0, .v l), (3, .v (k : Int)), (25, .v (!(voteOk x && !decide (x ∈ l.take k))))] []) ?_ ?_) | refine awp_seq_to (s' := mkSt 26 [(0, .v l), (3, .v (k : Int)), (25, .v (!(voteOk x && !decide (x ∈ l.take k))))] []) ?_ ?_ | refine awp_toB (s' := mkSt 26 [(0, .v l), (3, .v (k : Int)), (25, .v (!(voteOk x && !decide (x ∈ l.take k))))] []) ?_ ?_ | refine awp_to (s' := mkSt 26 [(0, .v l), (3, .v (k : Int)), (25, .v (!(voteOk x && !decide (x ∈ l.take k))))] []) ?_ ?_
    · all_goals first | refine awp_seq (dr_start (id := 4) ?_) | refine awp_seq (awp_seq (dr_start (id := 4) ?_)) | refine dr_start (id := 4) ?_ | refine awp_seq (awp_seq (awp_seq (dr_start (id := 4) ?_)))
      all_goals first | refine dr_cons (op_mv rfl (Conv.of rfl) rfl) ?_ | refine dr_cons (op_mvl rfl rfl rfl rfl) ?_ | refine dr_cons (op_mvo rfl rfl rfl rfl) ?_
      all_goals first | refine dr_cons (op_mv rfl (Conv.of rfl) rfl) ?_ | refine dr_cons (op_mvl rfl rfl rfl rfl) ?_ | refine dr_cons (op_mvo rfl rfl rfl rfl) ?_
      all_goals first | refine dr_cons (op_ix sl23 rfl rfl rfl (by omega) hx) ?_ | refine dr_cons (op_ixA sl23 rfl rfl rfl rfl (by omega)) ?_
      all_goals first | refine dr_cons (op_ld ty28 rfl rfl rfl) ?_ | refine dr_cons (op_ldr ty28 rfl rfl) ?_ | refine dr_cons (op_lde ty28 rfl rfl (by assumption) rfl) ?_ | refine dr_cons (op_ldl ty28 rfl rfl rfl) ?_ | refine dr_cons (op_ldd ty28 rfl rfl rfl) ?_ | refine dr_cons (op_ldde ty28 rfl rfl (by assumption) rfl) ?_
      all_goals refine dr_cons (op_call fb66 (.cons rfl (Conv.of rfl) (.nil _)) (l3Vote_ct _) (argOk rfl rfl argOk0) rfl rfl) ?_
      all_goals refine dr_cons (op_not rfl rfl) ?_
      all_goals first | refine dr_cons (op_mv rfl (Conv.of rfl) rfl) ?_ | refine dr_cons (op_mvl rfl rfl rfl rfl) ?_ | refine dr_cons (op_mvo rfl rfl rfl rfl) ?_
      all_goals first | refine dr_lit (t := 16) (b := true) rfl ?_ | refine dr_lit (t := 16) (b := false) rfl ?_ | refine dr_ulit (t := 16) rfl ?_ | refine dr_split (t := 16) rfl (fun h => ?_) (fun h => ?_)
      all_goals first | refine dr_cons (g_off rfl rfl rfl rfl rfl) ?_ | refine dr_cons (g_und rfl rfl rfl) ?_ | refine dr_cons (g_on rfl rfl rfl (op_mv rfl (Conv.of rfl) rfl)) ?_ | refine dr_cons (g_on rfl rfl rfl (op_mvl rfl rfl rfl rfl)) ?_ | refine dr_cons (g_on rfl rfl rfl (op_mvo rfl rfl rfl rfl)) ?_
      all_goals first | refine dr_cons (g_off rfl rfl rfl rfl rfl) ?_ | refine dr_cons (g_und rfl rfl rfl) ?_ | refine dr_cons (g_on rfl rfl rfl (op_mv rfl (Conv.of rfl) rfl)) ?_ | refine dr_cons (g_on rfl rfl rfl (op_mvl rfl rfl rfl rfl)) ?_ | refine dr_cons (g_on rfl rfl rfl (op_mvo rfl rfl rfl rfl)) ?_
      all_goals first | refine dr_cons (g_off rfl rfl rfl rfl rfl) ?_ | refine dr_cons (g_und rfl rfl rfl) ?_ | refine dr_cons (g_on rfl rfl rfl (op_slh sl23 rfl rfl rfl ⟨by omega, by omega⟩)) ?_
      all_goals first | refine dr_cons (g_off rfl rfl rfl rfl rfl) ?_ | refine dr_cons (g_und rfl rfl rfl) ?_ | refine dr_cons (g_on rfl rfl rfl (op_mv rfl (Conv.of rfl) rfl)) ?_ | refine dr_cons (g_on rfl rfl rfl (op_mvl rfl rfl rfl rfl)) ?_ | refine dr_cons (g_on rfl rfl rfl (op_mvo rfl rfl rfl rfl)) ?_
      all_goals first | refine dr_cons (g_off rfl rfl rfl rfl rfl) ?_ | refine dr_cons (g_und rfl rfl rfl) ?_ | refine dr_cons (g_on rfl rfl rfl (op_mv rfl (Conv.of rfl) rfl)) ?_ | refine dr_cons (g_on rfl rfl rfl (op_mvl rfl rfl rfl rfl)) ?_ | refine dr_cons (g_on rfl rfl rfl (op_mvo rfl rfl rfl rfl)) ?_
      all_goals first | refine dr_cons (g_off rfl rfl rfl rfl rfl) ?_ | refine dr_cons (g_und rfl rfl rfl) ?_ | refine dr_cons (g_on rfl rfl rfl (op_ix sl23 rfl rfl rfl (by omega) hx)) ?_ | refine dr_cons (g_on rfl rfl rfl (op_ixA sl23 rfl rfl rfl rfl (by omega))) ?_
      all_goals first | refine dr_cons (g_off rfl rfl rfl rfl rfl) ?_ | refine dr_cons (g_und rfl rfl rfl) ?_ | refine dr_cons (g_on rfl rfl rfl (op_ld ty28 rfl rfl rfl)) ?_ | refine dr_cons (g_on rfl rfl rfl (op_ldr ty28 rfl rfl)) ?_ | refine dr_cons (g_on rfl rfl rfl (op_lde ty28 rfl rfl (by assumption) rfl)) ?_ | refine dr_cons (g_on rfl rfl rfl (op_ldl ty28 rfl rfl rfl)) ?_ | refine dr_cons (g_on rfl rfl rfl (op_ldd ty28 rfl rfl rfl)) ?_ | refine dr_cons (g_on rfl rfl rfl (op_ldde ty28 rfl rfl (by assumption) rfl)) ?_
      all_goals first | refine dr_cons (g_off rfl rfl rfl rfl rfl) ?_ | refine dr_cons (g_und rfl rfl rfl) ?_ | refine dr_cons (g_on rfl rfl rfl (op_call fb82 (.cons rfl (Conv.of rfl) (.cons rfl (Conv.of rfl) (.nil _))) (l3Has_ct _ _) (argOk rfl rfl (argOk rfl rfl argOk0)) rfl rfl)) ?_
      all_goals refine dr_cons (op_pick rfl rfl rfl rfl) ?_
      all_goals refine dr_nil mixed rfl ?_
      all_goals exact Le.mk rfl (tle rfl (rfl) rfl (tle rfl (rfl) rfl (tle rfl (by first | rfl | (clear hall hs; simp_all)) rfl tln))) oln noS
    first | refine awp_seq (awp_cond rfl (fun h => ?_) (fun h => ?_)) | refine awp_seq (awp_seq (awp_cond rfl (fun h => ?_) (fun h => ?_))) | refine awp_cond rfl (fun h => ?_) (fun h => ?_) | refine awp_seq (awp_seq (awp_seq (awp_cond rfl (fun h => ?_) (fun h => ?_))))
    · all_goals first | refine awp_seq (awp_region (id := 5) ?_) | refine awp_seq (awp_seq (awp_region (id := 5) ?_)) | refine awp_region (id := 5) ?_ | refine awp_seq (awp_seq (awp_seq (awp_region (id := 5) ?_)))
      all_goals refine awpOps_cons (op_as rfl (Conv.of rfl) rfl) ?_
      all_goals refine awpOps_nil ?_
      refine awp_ret ?_
      repeat first | refine rt_seq ?_ | refine rt_block ?_
      refine finP (.v rfl (Conv.of rfl)) rfl ?_
      show AV.v false = _
      rw [hall, hs, not_t h, Bool.false_and]
    · refine awp_skip ?_
      all_goals first | refine awp_seq (awp_region (id := 3) ?_) | refine awp_seq (awp_seq (awp_region (id := 3) ?_)) | refine awp_region (id := 3) ?_ | refine awp_seq (awp_seq (awp_seq (awp_region (id := 3) ?_)))
      all_goals first | refine awpOps_cons (op_mv rfl (Conv.of rfl) rfl) ?_ | refine awpOps_cons (op_mvl rfl rfl rfl rfl) ?_ | refine awpOps_cons (op_mvo rfl rfl rfl rfl) ?_
      all_goals refine awpOps_cons (op_add rfl rfl rfl (by omega)) ?_
      all_goals first | refine awpOps_cons (op_as rfl (Conv.of rfl) rfl) ?_ | refine awpOps_cons (op_asl rfl rfl rfl rfl) ?_ | refine awpOps_cons (op_aso rfl rfl rfl rfl) ?_
      all_goals refine awpOps_nil ?_
      repeat first | refine nx_seq ?_ | refine nx_block ?_
      exact ⟨n_ - 1, _, by omega, ⟨k + 1, by omega, by rw [hall, hs, not_f h, Bool.true_and], rfl⟩, Le.mk rfl (tle rfl (rfl) rfl (tle rfl (rfl) rfl tln)) oln noS⟩
  · refine awp_exit ?_
    repeat refine ex_seq ?_
    refine ex_block ?_
    have hk : l.length ≤ k := by simpa using h
    all_goals first | refine awp_seq (awp_region (id := 6) ?_) | refine awp_seq (awp_seq (awp_region (id := 6) ?_)) | refine awp_region (id := 6) ?_ | refine awp_seq (awp_seq (awp_seq (awp_region (id := 6) ?_)))
    all_goals refine awpOps_cons (op_as rfl (Conv.of rfl) rfl) ?_
    all_goals refine awpOps_nil ?_
    refine awp_ret ?_
    repeat first | refine rt_seq ?_ | refine rt_block ?_
    refine finP (.v rfl (Conv.of rfl)) rfl ?_
    show AV.v true = _
    rw [hall, drop_end hk]; rfl
set_option maxHeartbeats 4000000 in
theorem sNodeOk_ct (n : Nod) : CtP Try.prog 18 [.v n] (.v (nodeOk n)) := by
  refine Ct.intro Try.func18 rfl rfl ?_
  all_goals first | refine awp_seq (awp_region (id := 0) ?_) | refine awp_seq (awp_seq (awp_region (id := 0) ?_)) | refine awp_region (id := 0) ?_ | refine awp_seq (awp_seq (awp_seq (awp_region (id := 0) ?_)))
  all_goals first | refine awpOps_cons (op_box (o := 0) ty25 rfl (Conv.of rfl) rfl rfl) ?_ | refine awpOps_cons (op_boxm (o := 0) ty25 rfl rfl rfl rfl) ?_
  all_goals refine awpOps_cons (op_as rfl (Conv.of rfl) rfl) ?_
  all_goals refine awpOps_nil ?_
  first | refine awp_seq (awp_seq (awp_seq (awp_seq_to (s' := mkSt 66 [(1, .box 0 (IsLens.whole Nod)), (34, .v (!nodeOk0 n))] [(0, .cell n)]) ?_ ?_))) | refine awp_seq (awp_seq (awp_seq_to (s' := mkSt 66 [(1, .box 0 (IsLens.whole Nod)), (34, .v (!nodeOk0 n))] [(0, .cell n)]) ?_ ?_)) | refine awp_seq (awp_seq_to (s' := mkSt 66 [(1, .box 0 (IsLens.whole Nod)), (34, .v (!nodeOk0 n))] [(0, .cell n)]) ?_ ?_) | refine awp_seq_to (s' := mkSt 66 [(1, .box 0 (IsLens.whole Nod)), (34, .v (!nodeOk0 n))] [(0, .cell n)]) ?_ ?_ | refine awp_toB (s' := mkSt 66 [(1, .box 0 (IsLens.whole Nod)), (34, .v (!nodeOk0 n))] [(0, .cell n)]) ?_ ?_ | refine awp_to (s' := mkSt 66 [(1, .box 0 (IsLens.whole Nod)), (34, .v (!nodeOk0 n))] [(0, .cell n)]) ?_ ?_
  · all_goals first | refine awp_seq (awp_region (id := 1) ?_) | refine awp_seq (awp_seq (awp_region (id := 1) ?_)) | refine awp_region (id := 1) ?_ | refine awp_seq (awp_seq (awp_seq (awp_region (id := 1) ?_)))
    all_goals first | refine awpOps_cons (op_fab f25_0 rfl rfl) ?_ | refine awpOps_cons (op_far f25_0 rfl rfl) ?_ | refine awpOps_cons (op_fae f25_0 rfl rfl) ?_
    all_goals first | refine awpOps_cons (op_ld ty3 rfl rfl rfl) ?_ | refine awpOps_cons (op_ldr ty3 rfl rfl) ?_ | refine awpOps_cons (op_lde ty3 rfl rfl (by assumption) rfl) ?_ | refine awpOps_cons (op_ldl ty3 rfl rfl rfl) ?_ | refine awpOps_cons (op_ldd ty3 rfl rfl rfl) ?_ | refine awpOps_cons (op_ldde ty3 rfl rfl (by assumption) rfl) ?_
    all_goals refine awpOps_cons (op_call fb51 (.cons rfl (Conv.of rfl) (.cons rfl (Conv.of rfl) (.cons rfl (Conv.of rfl) (.nil _)))) (l6In_ct _ _ _) (argOk rfl rfl (argOk rfl rfl (argOk rfl rfl argOk0))) rfl rfl) ?_
    all_goals refine awpOps_cons (op_not rfl rfl) ?_
    all_goals first | refine awpOps_cons (op_mv rfl (Conv.of rfl) rfl) ?_ | refine awpOps_cons (op_mvl rfl rfl rfl rfl) ?_ | refine awpOps_cons (op_mvo rfl rfl rfl rfl) ?_
    all_goals first | refine g_lit (t := 9) (b := true) rfl ?_ | refine g_lit (t := 9) (b := false) rfl ?_ | refine g_ulit (t := 9) rfl ?_ | refine g_split (t := 9) rfl (fun h => ?_) (fun h => ?_)
    all_goals first | refine awpOps_cons (g_off rfl rfl rfl rfl rfl) ?_ | refine awpOps_cons (g_und rfl rfl rfl) ?_ | refine awpOps_cons (g_on rfl rfl rfl (op_fab f25_1 rfl rfl)) ?_ | refine awpOps_cons (g_on rfl rfl rfl (op_far f25_1 rfl rfl)) ?_ | refine awpOps_cons (g_on rfl rfl rfl (op_fae f25_1 rfl rfl)) ?_
    all_goals first | refine awpOps_cons (g_off rfl rfl rfl rfl rfl) ?_ | refine awpOps_cons (g_und rfl rfl rfl) ?_ | refine awpOps_cons (g_on rfl rfl rfl (op_ld ty3 rfl rfl rfl)) ?_ | refine awpOps_cons (g_on rfl rfl rfl (op_ldr ty3 rfl rfl)) ?_ | refine awpOps_cons (g_on rfl rfl rfl (op_lde ty3 rfl rfl (by assumption) rfl)) ?_ | refine awpOps_cons (g_on rfl rfl rfl (op_ldl ty3 rfl rfl rfl)) ?_ | refine awpOps_cons (g_on rfl rfl rfl (op_ldd ty3 rfl rfl rfl)) ?_ | refine awpOps_cons (g_on rfl rfl rfl (op_ldde ty3 rfl rfl (by assumption) rfl)) ?_
    all_goals first | refine awpOps_cons (g_off rfl rfl rfl rfl rfl) ?_ | refine awpOps_cons (g_und rfl rfl rfl) ?_ | refine awpOps_cons (g_on rfl rfl rfl (op_call fb51 (.cons rfl (Conv.of rfl) (.cons rfl (Conv.of rfl) (.cons rfl (Conv.of rfl) (.nil _)))) (l6In_ct _ _ _) (argOk rfl rfl (argOk rfl rfl (argOk rfl rfl argOk0))) rfl rfl)) ?_
    all_goals first | refine awpOps_cons (g_off rfl rfl rfl rfl rfl) ?_ | refine awpOps_cons (g_und rfl rfl rfl) ?_ | refine awpOps_cons (g_on rfl rfl rfl (op_not rfl rfl)) ?_
    all_goals refine awpOps_cons (op_pick rfl rfl rfl rfl) ?_
    all_goals first | refine awpOps_cons (op_mv rfl (Conv.of rfl) rfl) ?_ | refine awpOps_cons (op_mvl rfl rfl rfl rfl) ?_ | refine awpOps_cons (op_mvo rfl rfl rfl rfl) ?_
    all_goals first | refine g_lit (t := 15) (b := true) rfl ?_ | refine g_lit (t := 15) (b := false) rfl ?_ | refine g_ulit (t := 15) rfl ?_ | refine g_split (t := 15) rfl (fun h => ?_) (fun h => ?_)
    all_goals first | refine awpOps_cons (g_off rfl rfl rfl rfl rfl) ?_ | refine awpOps_cons (g_und rfl rfl rfl) ?_ | refine awpOps_cons (g_on rfl rfl rfl (op_fab f25_2 rfl rfl)) ?_ | refine awpOps_cons (g_on rfl rfl rfl (op_far f25_2 rfl rfl)) ?_ | refine awpOps_cons (g_on rfl rfl rfl (op_fae f25_2 rfl rfl)) ?_
    all_goals first | refine awpOps_cons (g_off rfl rfl rfl rfl rfl) ?_ | refine awpOps_cons (g_und rfl rfl rfl) ?_ | refine awpOps_cons (g_on rfl rfl rfl (op_ld ty3 rfl rfl rfl)) ?_ | refine awpOps_cons (g_on rfl rfl rfl (op_ldr ty3 rfl rfl)) ?_ | refine awpOps_cons (g_on rfl rfl rfl (op_lde ty3 rfl rfl (by assumption) rfl)) ?_ | refine awpOps_cons (g_on rfl rfl rfl (op_ldl ty3 rfl rfl rfl)) ?_ | refine awpOps_cons (g_on rfl rfl rfl (op_ldd ty3 rfl rfl rfl)) ?_ | refine awpOps_cons (g_on rfl rfl rfl (op_ldde ty3 rfl rfl (by assumption) rfl)) ?_
    all_goals first | refine awpOps_cons (g_off rfl rfl rfl rfl rfl) ?_ | refine awpOps_cons (g_und rfl rfl rfl) ?_ | refine awpOps_cons (g_on rfl rfl rfl (op_fab f25_1 rfl rfl)) ?_ | refine awpOps_cons (g_on rfl rfl rfl (op_far f25_1 rfl rfl)) ?_ | refine awpOps_cons (g_on rfl rfl rfl (op_fae f25_1 rfl rfl)) ?_
    all_goals first | refine awpOps_cons (g_off rfl rfl rfl rfl rfl) ?_ | refine awpOps_cons (g_und rfl rfl rfl) ?_ | refine awpOps_cons (g_on rfl rfl rfl (op_ld ty3 rfl rfl rfl)) ?_ | refine awpOps_cons (g_on rfl rfl rfl (op_ldr ty3 rfl rfl)) ?_ | refine awpOps_cons (g_on rfl rfl rfl (op_lde ty3 rfl rfl (by assumption) rfl)) ?_ | refine awpOps_cons (g_on rfl rfl rfl (op_ldl ty3 rfl rfl rfl)) ?_ | refine awpOps_cons (g_on rfl rfl rfl (op_ldd ty3 rfl rfl rfl)) ?_ | refine awpOps_cons (g_on rfl rfl rfl (op_ldde ty3 rfl rfl (by assumption) rfl)) ?_
    all_goals first | refine awpOps_cons (g_off rfl rfl rfl rfl rfl) ?_ | refine awpOps_cons (g_und rfl rfl rfl) ?_ | refine awpOps_cons (g_on rfl rfl rfl (op_call fb51 (.cons rfl (Conv.of rfl) (.cons rfl (Conv.of rfl) (.cons rfl (Conv.of rfl) (.nil _)))) (l6In_ct _ _ _) (argOk rfl rfl (argOk rfl rfl (argOk rfl rfl argOk0))) rfl rfl)) ?_
    all_goals first | refine awpOps_cons (g_off rfl rfl rfl rfl rfl) ?_ | refine awpOps_cons (g_und rfl rfl rfl) ?_ | refine awpOps_cons (g_on rfl rfl rfl (op_not rfl rfl)) ?_
    all_goals refine awpOps_cons (op_pick rfl rfl rfl rfl) ?_
    all_goals first | refine awpOps_cons (op_mv rfl (Conv.of rfl) rfl) ?_ | refine awpOps_cons (op_mvl rfl rfl rfl rfl) ?_ | refine awpOps_cons (op_mvo rfl rfl rfl rfl) ?_
    all_goals first | refine g_lit (t := 23) (b := true) rfl ?_ | refine g_lit (t := 23) (b := false) rfl ?_ | refine g_ulit (t := 23) rfl ?_ | refine g_split (t := 23) rfl (fun h => ?_) (fun h => ?_)
    all_goals first | refine awpOps_cons (g_off rfl rfl rfl rfl rfl) ?_ | refine awpOps_cons (g_und rfl rfl rfl) ?_ | refine awpOps_cons (g_on rfl rfl rfl (op_fab f25_3 rfl rfl)) ?_ | refine awpOps_cons (g_on rfl rfl rfl (op_far f25_3 rfl rfl)) ?_ | refine awpOps_cons (g_on rfl rfl rfl (op_fae f25_3 rfl rfl)) ?_
    all_goals first | refine awpOps_cons (g_off rfl rfl rfl rfl rfl) ?_ | refine awpOps_cons (g_und rfl rfl rfl) ?_ | refine awpOps_cons (g_on rfl rfl rfl (op_ld ty23 rfl rfl rfl)) ?_ | refine awpOps_cons (g_on rfl rfl rfl (op_ldr ty23 rfl rfl)) ?_ | refine awpOps_cons (g_on rfl rfl rfl (op_lde ty23 rfl rfl (by assumption) rfl)) ?_ | refine awpOps_cons (g_on rfl rfl rfl (op_ldl ty23 rfl rfl rfl)) ?_ | refine awpOps_cons (g_on rfl rfl rfl (op_ldd ty23 rfl rfl rfl)) ?_ | refine awpOps_cons (g_on rfl rfl rfl (op_ldde ty23 rfl rfl (by assumption) rfl)) ?_
    all_goals first | refine awpOps_cons (g_off rfl rfl rfl rfl rfl) ?_ | refine awpOps_cons (g_und rfl rfl rfl) ?_ | refine awpOps_cons (g_on rfl rfl rfl (op_len sl23 rfl rfl)) ?_ | refine awpOps_cons (g_on rfl rfl rfl (op_lenA sl23 rfl rfl rfl)) ?_
    all_goals first | refine awpOps_cons (g_off rfl rfl rfl rfl rfl) ?_ | refine awpOps_cons (g_und rfl rfl rfl) ?_ | refine awpOps_cons (g_on rfl rfl rfl (op_gtr rfl rfl rfl)) ?_
    all_goals refine awpOps_cons (op_pick rfl rfl rfl rfl) ?_
    all_goals first | refine awpOps_cons (op_mv rfl (Conv.of rfl) rfl) ?_ | refine awpOps_cons (op_mvl rfl rfl rfl rfl) ?_ | refine awpOps_cons (op_mvo rfl rfl rfl rfl) ?_
    all_goals first | refine g_lit (t := 29) (b := true) rfl ?_ | refine g_lit (t := 29) (b := false) rfl ?_ | refine g_ulit (t := 29) rfl ?_ | refine g_split (t := 29) rfl (fun h => ?_) (fun h => ?_)
    all_goals first | refine awpOps_cons (g_off rfl rfl rfl rfl rfl) ?_ | refine awpOps_cons (g_und rfl rfl rfl) ?_ | refine awpOps_cons (g_on rfl rfl rfl (op_fab f25_3 rfl rfl)) ?_ | refine awpOps_cons (g_on rfl rfl rfl (op_far f25_3 rfl rfl)) ?_ | refine awpOps_cons (g_on rfl rfl rfl (op_fae f25_3 rfl rfl)) ?_
    all_goals first | refine awpOps_cons (g_off rfl rfl rfl rfl rfl) ?_ | refine awpOps_cons (g_und rfl rfl rfl) ?_ | refine awpOps_cons (g_on rfl rfl rfl (op_ld ty23 rfl rfl rfl)) ?_ | refine awpOps_cons (g_on rfl rfl rfl (op_ldr ty23 rfl rfl)) ?_ | refine awpOps_cons (g_on rfl rfl rfl (op_lde ty23 rfl rfl (by assumption) rfl)) ?_ | refine awpOps_cons (g_on rfl rfl rfl (op_ldl ty23 rfl rfl rfl)) ?_ | refine awpOps_cons (g_on rfl rfl rfl (op_ldd ty23 rfl rfl rfl)) ?_ | refine awpOps_cons (g_on rfl rfl rfl (op_ldde ty23 rfl rfl (by assumption) rfl)) ?_
    all_goals first | refine awpOps_cons (g_off rfl rfl rfl rfl rfl) ?_ | refine awpOps_cons (g_und rfl rfl rfl) ?_ | refine awpOps_cons (g_on rfl rfl rfl (op_call fb52 (.cons rfl (Conv.of rfl) (.nil _)) (sVotesOk_ct _) (argOk rfl rfl argOk0) rfl rfl)) ?_
    all_goals first | refine awpOps_cons (g_off rfl rfl rfl rfl rfl) ?_ | refine awpOps_cons (g_und rfl rfl rfl) ?_ | refine awpOps_cons (g_on rfl rfl rfl (op_not rfl rfl)) ?_
    all_goals refine awpOps_cons (op_pick rfl rfl rfl rfl) ?_
    all_goals refine awpOps_nil ?_
    all_goals exact Le.mk rfl (tlb rfl rfl rfl (tle rfl (by first | rfl | (show AV.v _ = AV.v _; unfold nodeOk0; simp_all; try omega)) rfl tln)) (olk rfl (by first | exact obOk_cell | exact obOk_arr | exact obOkW rfl | exact obOkW0 | exact obOkN | exact obOkS rfl | exact obOkNs | exact obOkS0 | trivial) oln) noS
  first | refine awp_seq (awp_cond rfl (fun h => ?_) (fun h => ?_)) | refine awp_seq (awp_seq (awp_cond rfl (fun h => ?_) (fun h => ?_))) | refine awp_cond rfl (fun h => ?_) (fun h => ?_) | refine awp_seq (awp_seq (awp_seq (awp_cond rfl (fun h => ?_) (fun h => ?_))))
  · all_goals first | refine awp_seq (awp_region (id := 2) ?_) | refine awp_seq (awp_seq (awp_region (id := 2) ?_)) | refine awp_region (id := 2) ?_ | refine awp_seq (awp_seq (awp_seq (awp_region (id := 2) ?_)))
    all_goals refine awpOps_cons (op_as rfl (Conv.of rfl) rfl) ?_
    all_goals refine awpOps_nil ?_
    refine awp_ret ?_
    repeat first | refine rt_seq ?_ | refine rt_block ?_
    refine finP (.v rfl (Conv.of rfl)) rfl ?_
    show AV.v false = _
    rw [nodeOk, not_t h]; rfl
  · have h0 := not_f h
    have h0' := h0
    simp only [nodeOk0, Bool.and_eq_true] at h0'
    have hvo := votesOk_mem h0'.2
    have hall0 : nodeOk n = !(n.seen.any (late n)) := by rw [nodeOk, h0, Bool.true_and]
    refine awp_skip ?_
    all_goals first | refine awp_seq (awp_region (id := 3) ?_) | refine awp_seq (awp_seq (awp_region (id := 3) ?_)) | refine awp_region (id := 3) ?_ | refine awp_seq (awp_seq (awp_seq (awp_region (id := 3) ?_)))
    all_goals refine awpOps_cons (op_as rfl (Conv.of rfl) rfl) ?_
    all_goals refine awpOps_nil ?_
    first | refine awp_seq (awp_block ?_) | refine awp_seq (awp_seq (awp_block ?_)) | refine awp_block ?_ | refine awp_seq (awp_seq (awp_seq (awp_block ?_)))
    first | refine awp_seq (awp_loop' (fun n_ s => ∃ (k : Nat), ∃ (hn : n_ + k = n.seen.length), ∃ (hall : nodeOk n = !((n.seen.drop k).any (late n))), s = mkSt 66 [(1, .box 0 (IsLens.whole Nod)), (3, .v (k : Int))] [(0, .cell n)]) (n.seen.length) ⟨0, by omega, hall0, rfl⟩ (Le.mk rfl (tlb rfl rfl rfl (tle rfl (rfl) rfl tln)) (olk rfl (by first | exact obOk_cell | exact obOk_arr | exact obOkW rfl | exact obOkW0 | exact obOkN | exact obOkS rfl | exact obOkNs | exact obOkS0 | trivial) oln) noS) ?_) | refine awp_seq (awp_seq (awp_loop' (fun n_ s => ∃ (k : Nat), ∃ (hn : n_ + k = n.seen.length), ∃ (hall : nodeOk n = !((n.seen.drop k).any (late n))), s = mkSt 66 [(1, .box 0 (IsLens.whole Nod)), (3, .v (k : Int))] [(0, .cell n)]) (n.seen.length) ⟨0, by omega, hall0, rfl⟩ (Le.mk rfl (tlb rfl rfl rfl (tle rfl (rfl) rfl tln)) (olk rfl (by first | exact obOk_cell | exact obOk_arr | exact obOkW rfl | exact obOkW0 | exact obOkN | exact obOkS rfl | exact obOkNs | exact obOkS0 | trivial) oln) noS) ?_)) | refine awp_loop' (fun n_ s => ∃ (k : Nat), ∃ (hn : n_ + k = n.seen.length), ∃ (hall : nodeOk n = !((n.seen.drop k).any (late n))), s = mkSt 66 [(1, .box 0 (IsLens.whole Nod)), (3, .v (k : Int))] [(0, .cell n)]) (n.seen.length) ⟨0, by omega, hall0, rfl⟩ (Le.mk rfl (tlb rfl rfl rfl (tle rfl (rfl) rfl tln)) (olk rfl (by first | exact obOk_cell | exact obOk_arr | exact obOkW rfl | exact obOkW0 | exact obOkN | exact obOkS rfl | exact obOkNs | exact obOkS0 | trivial) oln) noS) ?_ | refine awp_seq (awp_seq (awp_seq (awp_loop' (fun n_ s => ∃ (k : Nat), ∃ (hn : n_ + k = n.seen.length), ∃ (hall : nodeOk n = !((n.seen.drop k).any (late n))), s = mkSt 66 [(1, .box 0 (IsLens.whole Nod)), (3, .v (k : Int))] [(0, .cell n)]) (n.seen.length) ⟨0, by omega, hall0, rfl⟩ (Le.mk rfl (tlb rfl rfl rfl (tle rfl (rfl) rfl tln)) (olk rfl (by first | exact obOk_cell | exact obOk_arr | exact obOkW rfl | exact obOkW0 | exact obOkN | exact obOkS rfl | exact obOkNs | exact obOkS0 | trivial) oln) noS) ?_)))
    rintro n_ s ⟨k, hn, hall, rfl⟩
    all_goals first | refine awp_seq (awp_region (id := 4) ?_) | refine awp_seq (awp_seq (awp_region (id := 4) ?_)) | refine awp_region (id := 4) ?_ | refine awp_seq (awp_seq (awp_seq (awp_region (id := 4) ?_)))
    all_goals first | refine awpOps_cons (op_mv rfl (Conv.of rfl) rfl) ?_ | refine awpOps_cons (op_mvl rfl rfl rfl rfl) ?_ | refine awpOps_cons (op_mvo rfl rfl rfl rfl) ?_
    all_goals first | refine awpOps_cons (op_fab f25_3 rfl rfl) ?_ | refine awpOps_cons (op_far f25_3 rfl rfl) ?_ | refine awpOps_cons (op_fae f25_3 rfl rfl) ?_
    all_goals first | refine awpOps_cons (op_ld ty23 rfl rfl rfl) ?_ | refine awpOps_cons (op_ldr ty23 rfl rfl) ?_ | refine awpOps_cons (op_lde ty23 rfl rfl (by assumption) rfl) ?_ | refine awpOps_cons (op_ldl ty23 rfl rfl rfl) ?_ | refine awpOps_cons (op_ldd ty23 rfl rfl rfl) ?_ | refine awpOps_cons (op_ldde ty23 rfl rfl (by assumption) rfl) ?_
    refine awpOps_bigL 37 rfl (fun hB => ?_)
    all_goals first | refine awpOps_cons (op_len sl23 rfl rfl) ?_ | refine awpOps_cons (op_lenA sl23 rfl rfl rfl) ?_
    all_goals refine awpOps_cons (op_lss rfl rfl rfl) ?_
    all_goals refine awpOps_nil ?_
    first | refine awp_seq (awp_cond rfl (fun h => ?_) (fun h => ?_)) | refine awp_seq (awp_seq (awp_cond rfl (fun h => ?_) (fun h => ?_))) | refine awp_cond rfl (fun h => ?_) (fun h => ?_) | refine awp_seq (awp_seq (awp_seq (awp_cond rfl (fun h => ?_) (fun h => ?_))))
    · have hlt : k < n.seen.length := by simpa using h
      have hx : n.seen[k]? = some n.seen[k] := List.getElem?_eq_getElem hlt
      generalize n.seen[k] = x at hx
      have hp := voteOk_pos (hvo x (List.mem_of_getElem? hx))
      have hcl := chainOk_len (voteOk_chain (hvo x (List.mem_of_getElem? hx)))
      have hd := drop_at hx
      have hy : x.chain[((x.chain.length : Int) - 1).toNat]? = some (x.chain[x.chain.length - 1]'(by omega)) := by
        rw [show ((x.chain.length : Int) - 1).toNat = x.chain.length - 1 by omega]; exact List.getElem?_eq_getElem (by omega)
      have hle : lastEp x.chain = (x.chain[x.chain.length - 1]'(by omega)).epoch := lastEp_get (List.getElem?_eq_getElem (by omega))
      generalize x.chain[x.chain.length - 1]'(by omega) = y at hy hle
      have hlate : late n x = (decide (x.by_ = n.id) && decide (n.voted < y.epoch)) := by unfold late; rw [hle]
      refine awp_skip ?_
      first | refine awp_seq (awp_block ?_) | refine awp_seq (awp_seq (awp_block ?_)) | refine awp_block ?_ | refine awp_seq (awp_seq (awp_seq (awp_block ?_)))
      all_goals first | refine awp_seq (awp_region (id := 6) ?_) | refine awp_seq (awp_seq (awp_region (id := 6) ?_)) | refine awp_region (id := 6) ?_ | refine awp_seq (awp_seq (awp_seq (awp_region (id := 6) ?_)))
      all_goals first | refine awpOps_cons (op_fab f25_3 rfl rfl) ?_ | refine awpOps_cons (op_far f25_3 rfl rfl) ?_ | refine awpOps_cons (op_fae f25_3 rfl rfl) ?_
      all_goals first | refine awpOps_cons (op_ld ty23 rfl rfl rfl) ?_ | refine awpOps_cons (op_ldr ty23 rfl rfl) ?_ | refine awpOps_cons (op_lde ty23 rfl rfl (by assumption) rfl) ?_ | refine awpOps_cons (op_ldl ty23 rfl rfl rfl) ?_ | refine awpOps_cons (op_ldd ty23 rfl rfl rfl) ?_ | refine awpOps_cons (op_ldde ty23 rfl rfl (by assumption) rfl) ?_
      all_goals first | refine awpOps_cons (op_mv rfl (Conv.of rfl) rfl) ?_ | refine awpOps_cons (op_mvl rfl rfl rfl rfl) ?_ | refine awpOps_cons (op_mvo rfl rfl rfl rfl) ?_
      all_goals first | refine awpOps_cons (op_ix sl23 rfl rfl rfl (by omega) hx) ?_ | refine awpOps_cons (op_ixA sl23 rfl rfl rfl rfl (by omega)) ?_
      all_goals first | refine awpOps_cons (op_ld ty28 rfl rfl rfl) ?_ | refine awpOps_cons (op_ldr ty28 rfl rfl) ?_ | refine awpOps_cons (op_lde ty28 rfl rfl (by assumption) rfl) ?_ | refine awpOps_cons (op_ldl ty28 rfl rfl rfl) ?_ | refine awpOps_cons (op_ldd ty28 rfl rfl rfl) ?_ | refine awpOps_cons (op_ldde ty28 rfl rfl (by assumption) rfl) ?_
      all_goals refine awpOps_cons (op_alloc (o := 1) z28 rfl rfl) ?_
      all_goals first | refine awpOps_cons (op_st ty28 rfl rfl (Conv.of rfl) rfl) ?_ | refine awpOps_cons (op_ste ty28 rfl rfl (Conv.of rfl) rfl (by assumption)) ?_ | refine awpOps_cons (op_stm ty28 rfl rfl rfl) ?_ | refine awpOps_cons (op_stme ty28 rfl rfl rfl (by assumption)) ?_
      all_goals refine awpOps_nil ?_
      first | refine awp_seq (awp_seq (awp_seq (awp_seq_to (s' := mkSt 66 [(1, .box 0 (IsLens.whole Nod)), (3, .v (k : Int)), (65, .v (late n x))] [(0, .cell n)]) ?_ ?_))) | refine awp_seq (awp_seq (awp_seq_to (s' := mkSt 66 [(1, .box 0 (IsLens.whole Nod)), (3, .v (k : Int)), (65, .v (late n x))] [(0, .cell n)]) ?_ ?_)) | refine awp_seq (awp_seq_to (s' := mkSt 66 [(1, .box 0 (IsLens.whole Nod)), (3, .v (k : Int)), (65, .v (late n x))] [(0, .cell n)]) ?_ ?_) | refine awp_seq_to (s' := mkSt 66 [(1, .box 0 (IsLens.whole Nod)), (3, .v (k : Int)), (65, .v (late n x))] [(0, .cell n)]) ?_ ?_ | refine awp_toB (s' := mkSt 66 [(1, .box 0 (IsLens.whole Nod)), (3, .v (k : Int)), (65, .v (late n x))] [(0, .cell n)]) ?_ ?_ | refine awp_to (s' := mkSt 66 [(1, .box 0 (IsLens.whole Nod)), (3, .v (k : Int)), (65, .v (late n x))] [(0, .cell n)]) ?_ ?_
      · all_goals first | refine awp_seq (dr_start (id := 7) ?_) | refine awp_seq (awp_seq (dr_start (id := 7) ?_)) | refine dr_start (id := 7) ?_ | refine awp_seq (awp_seq (awp_seq (dr_start (id := 7) ?_)))
        all_goals first | refine dr_cons (op_fab f28_0 rfl rfl) ?_ | refine dr_cons (op_far f28_0 rfl rfl) ?_ | refine dr_cons (op_fae f28_0 rfl rfl) ?_
        all_goals first | refine dr_cons (op_ld ty3 rfl rfl rfl) ?_ | refine dr_cons (op_ldr ty3 rfl rfl) ?_ | refine dr_cons (op_lde ty3 rfl rfl (by assumption) rfl) ?_ | refine dr_cons (op_ldl ty3 rfl rfl rfl) ?_ | refine dr_cons (op_ldd ty3 rfl rfl rfl) ?_ | refine dr_cons (op_ldde ty3 rfl rfl (by assumption) rfl) ?_
        all_goals first | refine dr_cons (op_fab f25_0 rfl rfl) ?_ | refine dr_cons (op_far f25_0 rfl rfl) ?_ | refine dr_cons (op_fae f25_0 rfl rfl) ?_
        all_goals first | refine dr_cons (op_ld ty3 rfl rfl rfl) ?_ | refine dr_cons (op_ldr ty3 rfl rfl) ?_ | refine dr_cons (op_lde ty3 rfl rfl (by assumption) rfl) ?_ | refine dr_cons (op_ldl ty3 rfl rfl rfl) ?_ | refine dr_cons (op_ldd ty3 rfl rfl rfl) ?_ | refine dr_cons (op_ldde ty3 rfl rfl (by assumption) rfl) ?_
        all_goals refine dr_cons (op_eql rfl rfl rfl) ?_
        all_goals first | refine dr_cons (op_mv rfl (Conv.of rfl) rfl) ?_ | refine dr_cons (op_mvl rfl rfl rfl rfl) ?_ | refine dr_cons (op_mvo rfl rfl rfl rfl) ?_
        all_goals first | refine dr_lit (t := 52) (b := true) rfl ?_ | refine dr_lit (t := 52) (b := false) rfl ?_ | refine dr_ulit (t := 52) rfl ?_ | refine dr_split (t := 52) rfl (fun h => ?_) (fun h => ?_)
        all_goals first | refine dr_cons (g_off rfl rfl rfl rfl rfl) ?_ | refine dr_cons (g_und rfl rfl rfl) ?_ | refine dr_cons (g_on rfl rfl rfl (op_fab f28_1 rfl rfl)) ?_ | refine dr_cons (g_on rfl rfl rfl (op_far f28_1 rfl rfl)) ?_ | refine dr_cons (g_on rfl rfl rfl (op_fae f28_1 rfl rfl)) ?_
        all_goals first | refine dr_cons (g_off rfl rfl rfl rfl rfl) ?_ | refine dr_cons (g_und rfl rfl rfl) ?_ | refine dr_cons (g_on rfl rfl rfl (op_ld ty26 rfl rfl rfl)) ?_ | refine dr_cons (g_on rfl rfl rfl (op_ldr ty26 rfl rfl)) ?_ | refine dr_cons (g_on rfl rfl rfl (op_lde ty26 rfl rfl (by assumption) rfl)) ?_ | refine dr_cons (g_on rfl rfl rfl (op_ldl ty26 rfl rfl rfl)) ?_ | refine dr_cons (g_on rfl rfl rfl (op_ldd ty26 rfl rfl rfl)) ?_ | refine dr_cons (g_on rfl rfl rfl (op_ldde ty26 rfl rfl (by assumption) rfl)) ?_
        all_goals first | refine dr_cons (g_off rfl rfl rfl rfl rfl) ?_ | refine dr_cons (g_und rfl rfl rfl) ?_ | refine dr_cons (g_on rfl rfl rfl (op_fab f28_1 rfl rfl)) ?_ | refine dr_cons (g_on rfl rfl rfl (op_far f28_1 rfl rfl)) ?_ | refine dr_cons (g_on rfl rfl rfl (op_fae f28_1 rfl rfl)) ?_
        all_goals first | refine dr_cons (g_off rfl rfl rfl rfl rfl) ?_ | refine dr_cons (g_und rfl rfl rfl) ?_ | refine dr_cons (g_on rfl rfl rfl (op_ld ty26 rfl rfl rfl)) ?_ | refine dr_cons (g_on rfl rfl rfl (op_ldr ty26 rfl rfl)) ?_ | refine dr_cons (g_on rfl rfl rfl (op_lde ty26 rfl rfl (by assumption) rfl)) ?_ | refine dr_cons (g_on rfl rfl rfl (op_ldl ty26 rfl rfl rfl)) ?_ | refine dr_cons (g_on rfl rfl rfl (op_ldd ty26 rfl rfl rfl)) ?_ | refine dr_cons (g_on rfl rfl rfl (op_ldde ty26 rfl rfl (by assumption) rfl)) ?_
        all_goals first | refine dr_cons (g_off rfl rfl rfl rfl rfl) ?_ | refine dr_cons (g_und rfl rfl rfl) ?_ | refine dr_cons (g_on rfl rfl rfl (op_len sl26 rfl rfl)) ?_ | refine dr_cons (g_on rfl rfl rfl (op_lenA sl26 rfl rfl rfl)) ?_
        all_goals first | refine dr_cons (g_off rfl rfl rfl rfl rfl) ?_ | refine dr_cons (g_und rfl rfl rfl) ?_ | refine dr_cons (g_on rfl rfl rfl (op_sub rfl rfl rfl (by omega))) ?_
        all_goals first | refine dr_cons (g_off rfl rfl rfl rfl rfl) ?_ | refine dr_cons (g_und rfl rfl rfl) ?_ | refine dr_cons (g_on rfl rfl rfl (op_ix sl26 rfl rfl rfl (by omega) hy)) ?_ | refine dr_cons (g_on rfl rfl rfl (op_ixA sl26 rfl rfl rfl rfl (by omega))) ?_
        all_goals first | refine dr_cons (g_off rfl rfl rfl rfl rfl) ?_ | refine dr_cons (g_und rfl rfl rfl) ?_ | refine dr_cons (g_on rfl rfl rfl (op_fab f38_0 rfl rfl)) ?_ | refine dr_cons (g_on rfl rfl rfl (op_far f38_0 rfl rfl)) ?_ | refine dr_cons (g_on rfl rfl rfl (op_fae f38_0 rfl rfl)) ?_
        all_goals first | refine dr_cons (g_off rfl rfl rfl rfl rfl) ?_ | refine dr_cons (g_und rfl rfl rfl) ?_ | refine dr_cons (g_on rfl rfl rfl (op_ld ty3 rfl rfl rfl)) ?_ | refine dr_cons (g_on rfl rfl rfl (op_ldr ty3 rfl rfl)) ?_ | refine dr_cons (g_on rfl rfl rfl (op_lde ty3 rfl rfl (by assumption) rfl)) ?_ | refine dr_cons (g_on rfl rfl rfl (op_ldl ty3 rfl rfl rfl)) ?_ | refine dr_cons (g_on rfl rfl rfl (op_ldd ty3 rfl rfl rfl)) ?_ | refine dr_cons (g_on rfl rfl rfl (op_ldde ty3 rfl rfl (by assumption) rfl)) ?_
        all_goals first | refine dr_cons (g_off rfl rfl rfl rfl rfl) ?_ | refine dr_cons (g_und rfl rfl rfl) ?_ | refine dr_cons (g_on rfl rfl rfl (op_fab f25_2 rfl rfl)) ?_ | refine dr_cons (g_on rfl rfl rfl (op_far f25_2 rfl rfl)) ?_ | refine dr_cons (g_on rfl rfl rfl (op_fae f25_2 rfl rfl)) ?_
        all_goals first | refine dr_cons (g_off rfl rfl rfl rfl rfl) ?_ | refine dr_cons (g_und rfl rfl rfl) ?_ | refine dr_cons (g_on rfl rfl rfl (op_ld ty3 rfl rfl rfl)) ?_ | refine dr_cons (g_on rfl rfl rfl (op_ldr ty3 rfl rfl)) ?_ | refine dr_cons (g_on rfl rfl rfl (op_lde ty3 rfl rfl (by assumption) rfl)) ?_ | refine dr_cons (g_on rfl rfl rfl (op_ldl ty3 rfl rfl rfl)) ?_ | refine dr_cons (g_on rfl rfl rfl (op_ldd ty3 rfl rfl rfl)) ?_ | refine dr_cons (g_on rfl rfl rfl (op_ldde ty3 rfl rfl (by assumption) rfl)) ?_
        all_goals first | refine dr_cons (g_off rfl rfl rfl rfl rfl) ?_ | refine dr_cons (g_und rfl rfl rfl) ?_ | refine dr_cons (g_on rfl rfl rfl (op_gtr rfl rfl rfl)) ?_
        all_goals refine dr_cons (op_pick rfl rfl rfl rfl) ?_
        all_goals refine dr_nil mixed rfl ?_
        all_goals exact Le.mk rfl (tlb rfl rfl rfl (tle rfl (rfl) rfl (tle rfl (by first | rfl | (show AV.v _ = AV.v _; rw [hlate]; clear hall hd hall0; simp_all)) rfl tln))) (olk rfl (by first | exact obOk_cell | exact obOk_arr | exact obOkW rfl | exact obOkW0 | exact obOkN | exact obOkS rfl | exact obOkNs | exact obOkS0 | trivial) oln) noS
      first | refine awp_seq (awp_cond rfl (fun h2 => ?_) (fun h2 => ?_)) | refine awp_seq (awp_seq (awp_cond rfl (fun h2 => ?_) (fun h2 => ?_))) | refine awp_cond rfl (fun h2 => ?_) (fun h2 => ?_) | refine awp_seq (awp_seq (awp_seq (awp_cond rfl (fun h2 => ?_) (fun h2 => ?_))))
      · all_goals first | refine awp_seq (awp_region (id := 8) ?_) | refine awp_seq (awp_seq (awp_region (id := 8) ?_)) | refine awp_region (id := 8) ?_ | refine awp_seq (awp_seq (awp_seq (awp_region (id := 8) ?_)))
        all_goals refine awpOps_cons (op_as rfl (Conv.of rfl) rfl) ?_
        all_goals refine awpOps_nil ?_
        refine awp_ret ?_
        repeat first | refine rt_seq ?_ | refine rt_block ?_
        refine finP (.v rfl (Conv.of rfl)) rfl ?_
        show AV.v false = _
        rw [hall, hd, List.any_cons, h2]; rfl
      · refine awp_skip ?_
        all_goals first | refine awp_seq (awp_region (id := 5) ?_) | refine awp_seq (awp_seq (awp_region (id := 5) ?_)) | refine awp_region (id := 5) ?_ | refine awp_seq (awp_seq (awp_seq (awp_region (id := 5) ?_)))
        all_goals first | refine awpOps_cons (op_mv rfl (Conv.of rfl) rfl) ?_ | refine awpOps_cons (op_mvl rfl rfl rfl rfl) ?_ | refine awpOps_cons (op_mvo rfl rfl rfl rfl) ?_
        all_goals refine awpOps_cons (op_add rfl rfl rfl (by omega)) ?_
        all_goals first | refine awpOps_cons (op_as rfl (Conv.of rfl) rfl) ?_ | refine awpOps_cons (op_asl rfl rfl rfl rfl) ?_ | refine awpOps_cons (op_aso rfl rfl rfl rfl) ?_
        all_goals refine awpOps_nil ?_
        repeat first | refine nx_seq ?_ | refine nx_block ?_
        exact ⟨n_ - 1, _, by omega, ⟨k + 1, by omega, by rw [hall, hd, List.any_cons, h2, Bool.false_or], rfl⟩, Le.mk rfl (tlb rfl rfl rfl (tle rfl (rfl) rfl tln)) (olk rfl (by first | exact obOk_cell | exact obOk_arr | exact obOkW rfl | exact obOkW0 | exact obOkN | exact obOkS rfl | exact obOkNs | exact obOkS0 | trivial) oln) noS⟩
    · refine awp_exit ?_
      repeat refine ex_seq ?_
      refine ex_block ?_
      have hk : n.seen.length ≤ k := by simpa using h
      all_goals first | refine awp_seq (awp_region (id := 9) ?_) | refine awp_seq (awp_seq (awp_region (id := 9) ?_)) | refine awp_region (id := 9) ?_ | refine awp_seq (awp_seq (awp_seq (awp_region (id := 9) ?_)))
      all_goals refine awpOps_cons (op_as rfl (Conv.of rfl) rfl) ?_
      all_goals refine awpOps_nil ?_
      refine awp_ret ?_
      repeat first | refine rt_seq ?_ | refine rt_block ?_
      refine finP (.v rfl (Conv.of rfl)) rfl ?_
      show AV.v true = _
      rw [hall, drop_end hk]; rfl
end Go.Proofs.Ytmabpmlcclgecaa

/- The reference: a world anew. -/
set_option linter.unusedVariables false
set_option linter.unusedSimpArgs false
namespace Go.Proofs.Ytmabpmlcclgecaa
open Go Go.Wt
end Go.Proofs.Ytmabpmlcclgecaa

/- The reference: what happens in a world, for outsiders; both: a node hears, for outsiders. -/
set_option linter.unusedVariables false
set_option linter.unusedSimpArgs false
namespace Go.Proofs.Ytmabpmlcclgecaa
open Go Go.Wt
def nodeHearR (n : Nod) (v : Vote) : Nod × Vote × Bool := if nodeOk n then hearF n v else (.zero, .zero, false)
end Go.Proofs.Ytmabpmlcclgecaa

/- What happens in a world in form. -/
set_option linter.unusedVariables false
set_option linter.unusedSimpArgs false
namespace Go.Wt
/-- What a node does when it hears `v`, or proposes. -/
structure NS (n : Nod) (v : Option Vote) (x : Nod × Vote × Bool) : Prop where
  id : x.1.id = n.id
  ep : x.1.epoch = n.epoch
  seen : ∃ N, x.1.seen = n.seen ++ N ∧ ∀ u ∈ N, some u = v ∨ (x.2.2 = true ∧ u = x.2.1)
  by_ : x.2.2 = true → x.2.1.by_ = n.id
theorem NS.refl (n : Nod) (v : Option Vote) : NS n v (n, .zero, false) := ⟨rfl, rfl, ⟨[], by simp, fun u hu => by cases hu⟩, fun h => by cases h⟩
theorem NS.keep {n m : Nod} {v : Option Vote} (hid : m.id = n.id) (hep : m.epoch = n.epoch) (hs : ∃ N, m.seen = n.seen ++ N ∧ ∀ u ∈ N, some u = v) : NS n v (m, .zero, false) := by
  obtain ⟨N, h1, h2⟩ := hs
  exact ⟨hid, hep, ⟨N, h1, fun u hu => .inl (h2 u hu)⟩, fun h => by cases h⟩
theorem NS.vote {n m : Nod} {v : Option Vote} {c : List Itm} (hid : m.id = n.id) (hep : m.epoch = n.epoch) (hs : ∃ N, m.seen = n.seen ++ N ∧ ∀ u ∈ N, some u = v) : NS n v (voteF m c) := by
  unfold voteF
  split
  · exact NS.keep hid hep hs
  · obtain ⟨N, h1, h2⟩ := hs
    refine ⟨hid, hep, ⟨N ++ [⟨m.id, c⟩], by simp [h1], fun u hu => ?_⟩, fun _ => hid⟩
    rcases List.mem_append.1 hu with hu | hu
    · exact .inl (h2 u hu)
    · simp at hu; exact .inr ⟨rfl, hu⟩
theorem NS.try {n m : Nod} {v : Option Vote} (hid : m.id = n.id) (hep : m.epoch = n.epoch) (hs : ∃ N, m.seen = n.seen ++ N ∧ ∀ u ∈ N, some u = v) : ∀ l : List Vote, NS n v (tryF m l)
  | [] => NS.keep hid hep hs
  | u :: r => by
    simp only [tryF]
    split
    · exact NS.vote hid hep hs
    · exact NS.try hid hep hs r
theorem seeF_app (n : Nod) (v : Vote) : ∃ N, (seeF n v).seen = n.seen ++ N ∧ ∀ u ∈ N, some u = some v := by
  unfold seeF
  split
  · exact ⟨[], by simp, fun u hu => by cases hu⟩
  · exact ⟨[v], rfl, fun u hu => by simp at hu; rw [hu]⟩
theorem NS.hear (n : Nod) (v : Vote) : NS n (some v) (hearF n v) := by
  have h := seeF_app n v
  have h2 := seeF_epoch n v
  unfold hearF
  split
  · split
    · exact NS.try h2.2.1 h2.1 h _
    · exact NS.keep h2.2.1 h2.1 h
  · exact NS.refl n _
theorem NS.propose (n : Nod) (p : Pay) : NS n none (proposeF n p) := by
  unfold proposeF
  split
  · exact NS.vote rfl rfl ⟨[], by simp, fun u hu => by cases hu⟩
  · exact NS.refl n _
theorem putF_nodes (w : Wrld) (k : Nat) (x : Nod × Vote × Bool) : (putF w k x).nodes = w.nodes.set k x.1 := by
  unfold putF
  split
  · unfold sendF; split <;> rfl
  · rfl
/-- What is sent: at most one more. -/
def Sn (w w' : Wrld) (p : Vote → Prop) : Prop := w'.log = w.log ∨ ∃ v, w'.log = w.log ++ [v] ∧ p v
theorem sendF_sn (w : Wrld) (v : Vote) {p : Vote → Prop} (h : p v) : Sn w (sendF w v) p := by
  unfold sendF
  split
  · exact .inr ⟨v, rfl, h⟩
  · exact .inl rfl
theorem sendF_mem {w : Wrld} {v : Vote} (h : w.log.length < 80) : v ∈ (sendF w v).log := by
  unfold sendF
  split
  · simp
  · rename_i hh
    simp only [Bool.and_eq_true, Bool.not_eq_true', decide_eq_false_iff_not, decide_eq_true_eq, not_and] at hh
    by_cases hm : v ∈ w.log
    · exact hm
    · exact absurd h (hh hm)
theorem putF_sn {w : Wrld} {k : Nat} {x : Nod × Vote × Bool} {p : Vote → Prop} (h : x.2.2 = true → p x.2.1) : Sn w (putF w k x) p := by
  unfold putF
  split
  · rename_i hh
    exact sendF_sn { w with nodes := w.nodes.set k x.1 } x.2.1 (h hh)
  · exact .inl rfl
theorem putF_has {w : Wrld} {k : Nat} {x : Nod × Vote × Bool} (h : x.2.2 = true) (hl : w.log.length < 80) : x.2.1 ∈ (putF w k x).log := by
  unfold putF
  rw [if_pos h]
  exact sendF_mem hl
theorem Sn.sub {w w' : Wrld} {p : Vote → Prop} (h : Sn w w' p) : ∀ v ∈ w.log, v ∈ w'.log := fun v hv => by
  rcases h with e | ⟨u, e, _⟩
  · rw [e]; exact hv
  · rw [e]; exact List.mem_append_left _ hv
/-- What a world becomes. -/
structure Stp (w w' : Wrld) : Prop where
  ok : WOk w'
  bad : w'.bad = w.bad
  ep : w.epoch ≤ w'.epoch ∧ w'.epoch ≤ w.epoch + 1
  log : Sn w w' (fun _ => True)
  seen : ∀ (i : Nat) (n : Nod), w.nodes[i]? = some n → ∃ n' N, w'.nodes[i]? = some n' ∧ n'.seen = n.seen ++ N
theorem Stp.refl {w : Wrld} (h : WOk w) : Stp w w := ⟨h, rfl, by omega, .inl rfl, fun i n hn => ⟨n, [], hn, by simp⟩⟩
theorem Stp.put {w : Wrld} {k : Nat} {n : Nod} {v : Option Vote} {x : Nod × Vote × Bool} (h : WOk w) (hn : w.nodes[k]? = some n) (hx : NS n v x) (hv : ∀ u, v = some u → u ∈ w.log) (hl : w.log.length < 80)
    (h1 : nodeOk x.1 = true) (h2 : x.2.2 = true → voteOk x.2.1 = true) : Stp w (putF w k x) := by
  have hno := putF_nodes w k x
  have hsn : Sn w (putF w k x) (fun _ => True) := putF_sn fun _ => trivial
  have heb := putF_eb w k x
  have hlt := (List.getElem?_eq_some_iff.1 hn).1
  refine ⟨⟨putF_ok h.fx h1 h2, by rw [heb.2]; exact h.bad, fun i m hm => ?_⟩, heb.2, by rw [heb.1]; omega, hsn, fun i m hm => ?_⟩
  · rw [hno] at hm
    rw [heb.1, heb.2]
    by_cases hik : k = i
    · subst hik
      rw [List.getElem?_set_self hlt] at hm
      injection hm with hm
      subst hm
      obtain ⟨a, b, c⟩ := h.node k n hn
      refine ⟨by rw [hx.id]; exact a, by rw [hx.ep]; exact b, fun u hu => ?_⟩
      obtain ⟨N, e, hN⟩ := hx.seen
      rw [e] at hu
      rcases List.mem_append.1 hu with hu | hu
      · rcases c u hu with q | q
        · exact .inl q
        · exact .inr (hsn.sub u q)
      · rcases hN u hu with q | ⟨q1, q2⟩
        · exact .inr (hsn.sub u (hv u q.symm))
        · rw [q2]; exact .inr (putF_has q1 hl)
    · rw [List.getElem?_set_ne hik] at hm
      obtain ⟨a, b, c⟩ := h.node i m hm
      exact ⟨a, b, fun u hu => (c u hu).imp id (hsn.sub u)⟩
  · rw [hno]
    by_cases hik : k = i
    · subst hik
      rw [hn] at hm
      injection hm with hm
      subst hm
      obtain ⟨N, e, _⟩ := hx.seen
      exact ⟨x.1, N, by rw [List.getElem?_set_self hlt], e⟩
    · exact ⟨m, [], by rw [List.getElem?_set_ne hik]; exact hm, by simp⟩
theorem Stp.tick {w : Wrld} (h : WOk w) : Stp w (tickF w) := by
  have hep := h.fx.ep
  refine ⟨⟨tickF_ok h.fx, h.bad, fun i m hm => ?_⟩, rfl, ?_, .inl rfl, fun i n hn => ?_⟩
  · have hm' : (w.nodes.map fun n => enterF n (min (w.epoch + 1) 30))[i]? = some m := hm
    rw [List.getElem?_map] at hm'
    cases hn : w.nodes[i]? with
    | none => rw [hn] at hm'; cases hm'
    | some n =>
      rw [hn] at hm'
      simp at hm'
      obtain ⟨a, b, c⟩ := h.node i n hn
      subst hm'
      refine ⟨?_, ?_, fun u hu => ?_⟩
      · unfold enterF; split <;> exact a
      · show (enterF n (min (w.epoch + 1) 30)).epoch = min (w.epoch + 1) 30
        unfold enterF
        split
        · rfl
        · rename_i hh
          simp only [within, Bool.and_eq_true, decide_eq_true_eq, not_and] at hh
          rw [b] at hh ⊢
          omega
      · have : (enterF n (min (w.epoch + 1) 30)).seen = n.seen := by unfold enterF; split <;> rfl
        rw [this] at hu
        exact c u hu
  · show w.epoch ≤ min (w.epoch + 1) 30 ∧ min (w.epoch + 1) 30 ≤ w.epoch + 1
    omega
  · refine ⟨enterF n (min (w.epoch + 1) 30), [], ?_, ?_⟩
    · show (w.nodes.map fun n => enterF n (min (w.epoch + 1) 30))[i]? = _
      rw [List.getElem?_map, hn]; rfl
    · unfold enterF; split <;> simp
theorem Stp.send {w : Wrld} {v : Vote} (h : WOk w) (hv : voteOk v = true) : Stp w (sendF w v) := by
  have hsn : Sn w (sendF w v) (fun _ => True) := sendF_sn w v trivial
  have e : (sendF w v).epoch = w.epoch ∧ (sendF w v).bad = w.bad ∧ (sendF w v).nodes = w.nodes := by unfold sendF; split <;> exact ⟨rfl, rfl, rfl⟩
  refine ⟨⟨sendF_ok h.fx hv, by rw [e.2.1]; exact h.bad, fun i m hm => ?_⟩, e.2.1, by rw [e.1]; omega, hsn, fun i n hn => ⟨n, [], by rw [e.2.2]; exact hn, by simp⟩⟩
  rw [e.2.2] at hm
  rw [e.1, e.2.1]
  obtain ⟨a, b, c⟩ := h.node i m hm
  exact ⟨a, b, fun u hu => (c u hu).imp id (hsn.sub u)⟩
theorem Stp.bring {w : Wrld} (h : WOk w) (a id : Int) : Stp w (wbringF w a id) := by
  unfold wbringF
  split
  · rename_i hh
    simp only [honestB, Bool.and_eq_true, Bool.not_eq_true', decide_eq_false_iff_not, decide_eq_true_eq] at hh
    split
    · rename_i n v hn hv
      have := hearF_ok v (h.fx.nodes n (List.mem_of_getElem? hn))
      exact Stp.put h hn (NS.hear n v) (fun u hu => by injection hu with hu; rw [← hu]; exact List.mem_of_getElem? hv) hh.1.2 this.1 this.2
    · exact Stp.refl h
  · exact Stp.refl h
theorem Stp.propose {w : Wrld} (h : WOk w) (id : Int) (p : Pay) : Stp w (wproposeF w id p) := by
  unfold wproposeF
  split
  · rename_i hh
    simp only [honestB, Bool.and_eq_true, Bool.not_eq_true', decide_eq_false_iff_not, decide_eq_true_eq] at hh
    split
    · rename_i n hn
      have := proposeF_ok p (h.fx.nodes n (List.mem_of_getElem? hn))
      exact Stp.put h hn (NS.propose n p) (fun u hu => by cases hu) hh.1.2 this.1 this.2
    · exact Stp.refl h
  · exact Stp.refl h
theorem Stp.do {w : Wrld} (h : WOk w) (e : Evt) : Stp w (doF w e) := by
  unfold doF
  split
  · exact Stp.tick h
  · split
    · exact Stp.propose h _ _
    · split
      · exact Stp.bring h _ _
      · split
        · split
          · rename_i hh
            simp only [Bool.and_eq_true] at hh
            exact Stp.send h hh.1
          · exact Stp.refl h
        · exact Stp.refl h
end Go.Wt

/- Parking of a world's room. -/
set_option linter.unusedVariables false
set_option linter.unusedSimpArgs false
namespace Go.Wt
open Go
variable {P : Program} {S : Nat → Prop} {ops : Array Oper} {st : St}
/-- Between the parts of a region: a variable is seen in another way. -/
theorem recell {o tb : Nat} {α β : Type} [Enc α] [Enc β] {x : α} {y : β} (ho : st.ob o = .cell x) (htb : st.tm tb = some (.box o (IsLens.whole α)))
    (hc : ∀ (G : Gh) (w : Go.World) (ω : Owner) (cs : List Value), Enc.rd G w ω x cs → Enc.rd G w ω y cs) :
    ∀ G w a, RelSt G w a st → ∃ (_ : Unit) (G' : Gh), RelSt G' w a (st.upd [(tb, some (.box o (IsLens.whole β)))] [(o, .cell y)]) ∧ Keep S G w G' w := fun G w a hr => by
  have hob := hr.objs o
  rw [ho] at hob
  obtain ⟨b', cs, e, k1, k2, k3, k4⟩ := hob
  refine ⟨(), G, ⟨hr.defers, hr.size, fun q => ?_, fun j => ?_⟩, Keep.refl _ _ _⟩
  · show RelT _ _ _ (orr (lk [(tb, _)] q) (st.tm q)) (a.tmps.getD q undef)
    simp only [lk]
    by_cases eb : q = tb
    · subst eb
      rw [if_pos rfl]
      have := hr.tmps q
      rw [htb] at this
      exact this
    · rw [if_neg eb]
      exact hr.tmps q
  · show RelO _ _ j (orr (lk [(o, _)] j) (st.ob j))
    simp only [lk]
    by_cases ek : j = o
    · subst ek
      rw [if_pos rfl]
      exact ⟨b', cs, e, k1, k2, hc _ _ _ _ k3, k4⟩
    · rw [if_neg ek]
      exact hr.objs j
/-! ### Quiet epochs in worlds in form -/
theorem Stp.wok {w w' : Wrld} (h : Stp w w') : WOk w' := h.ok
end Go.Wt

/- Drawn nodes. -/
set_option linter.unusedVariables false
set_option linter.unusedSimpArgs false
namespace Go.Wt
open Go
theorem rd_FN {G : Gh} {w : Go.World} {ω : Owner} {n : Nod} {cs : List Value} (h : Enc.rd G w ω (fN n) cs) : Enc.rd G w ω n cs := by
  obtain ⟨c1, c2, rfl, r1, ⟨c3, c4, rfl, r3, ⟨c5, c6, rfl, r5, ⟨a, cap, h1, h2, h3, h4⟩⟩⟩⟩ := h
  exact ⟨c1, _, rfl, r1, c3, _, rfl, r3, c5, _, rfl, r5, ⟨a, cap, h1, h2, h3⟩⟩
theorem arr_nF {G : Gh} {w : Go.World} {o : Nat} {ns : List Nod} {k : Nat} {n : Nod} (hx : ns[k]? = some n) (h : RelO G w o (.arr ((ns.map sN).set k (fN n)))) : RelO G w o (.arr ns) := by
  obtain ⟨b, cap, cs, e, h1, h2, h3, h4, h5, h6⟩ := h
  refine ⟨b, cap, cs, e, by simpa using h1, h2, by simpa using h3, h4, fun i x hi => ?_, h6⟩
  by_cases ek : i = k
  · subst ek
    rw [hx] at hi
    injection hi with hi
    subst hi
    obtain ⟨c, c1, c2⟩ := h5 i (fN n) (by rw [List.getElem?_set_self (by rw [List.length_map]; exact getElem?_lt hx)])
    exact ⟨c, rd_FN c1, c2⟩
  · obtain ⟨c, c1, c2⟩ := h5 i (sN x) (by rw [List.getElem?_set_ne (Ne.symm ek), List.getElem?_map, hi]; rfl)
    exact ⟨c, rd_SN c1, c2⟩
/-- A node of a drawn one's size. -/
structure Ln (n : Nod) : Prop where
  ep : 0 ≤ n.epoch ∧ n.epoch ≤ 30
  sl : n.seen.length ≤ 101
  sc : ∀ v ∈ n.seen, v.chain.length ≤ 30
theorem FineX.ln {w : Wrld} (h : FineX w) {n : Nod} (hn : n ∈ w.nodes) : Ln n :=
  ⟨h.fine.nep n hn, by have := h.lw.sl n hn; omega, (h.lw.sl n hn).2⟩
/-- Which node is drawn. -/
def idF (bad q : Int) : Int := if q = bad then q.tmod 4 + 1 else q
theorem idF_bd {bad q : Int} (h : 1 ≤ q ∧ q ≤ 4) : 1 ≤ idF bad q ∧ idF bad q ≤ 4 := by
  unfold idF
  split
  · have : q = 1 ∨ q = 2 ∨ q = 3 ∨ q = 4 := by omega
    rcases this with e | e | e | e <;> rw [e] <;> decide
  · exact h
end Go.Wt

/- The reference: drawn nodes. -/
set_option linter.unusedVariables false
set_option linter.unusedSimpArgs false
namespace Go.Proofs.Ytmabpmlcclgecaa
open Go Go.Wt
set_option maxHeartbeats 4000000 in
theorem l72Node_ct (r : Rd) (hp : Far 1000 r) : Ct Try.prog 31 [.box 0 (IsLens.whole Rd)] (obs [(0, .cell r)]) (fun r1 h1 => ∃ (n : Nod) (w : Wrld) (r' : Rd), r1 = .tup [.v n, .v w] ∧ h1 = obs [(0, .cell r')] ∧ Ln n ∧ FineX w ∧ Far 21000 r') := by
  refine Ct.intro Try.func31 rfl rfl ?_
  all_goals refine awp_seq (awp_region (id := 0) ?_)
  all_goals refine awpOps_cons (op_alloc (o := 5) z25 rfl rfl) ?_
  all_goals refine awpOps_cons (op_alloc (o := 6) z61 rfl rfl) ?_
  all_goals refine awpOps_nil ?_
  all_goals refine awp_seq (awp_region (id := 1) ?_)
  all_goals refine awpOps_cons (op_mv rfl (Conv.of rfl) rfl) ?_
  refine awpOps_callO [(0, .cell r)] rfl fb63 (.cons rfl (Conv.of rfl) (.nil _)) (l72Play_ct r hp) (olsk rfl ols0) (oksk obOk_cell oks0) (argOb rfl rfl rfl argO0) rfl ?_
  rintro r_ h' ⟨bad, evs, w, r1, rfl, rfl, he, hb, hw, hf⟩
  refine ⟨ro r1 w, rfl, fun o ho => ?_, fun o ho h1 => ?_, oksk obOk_cell (oksk obOkNs oks0), fun o ho => ?_, ?_⟩
  · have : o = 0 := by simpa [keys, lk0] using ho
    subst this; rfl
  · by_cases e0 : o = 0
    · subst e0; cases h1
    · have : o = 1 := by simpa [keys, lk0, e0] using ho
      subst this; rfl
  · have : o = 1 := by simpa using (show o ∈ [1] from ho)
    subst this; rfl
  have h4 := hw.four
  have hf1 : Far 20001 (nx r1 1) := hf.nx (by omega) (by omega)
  have hf2 : Far 20002 (nx (nx r1 1) 1) := hf1.nx (by omega) (by omega)
  have hf3 : Far 20003 (nx (nx (nx r1 1) 1) 1) := hf2.nx (by omega) (by omega)
  have d4 := pk_bd hf (by omega) 4
  have f4 := d4.2 (by omega)
  have d5 := pk_bd hf2 (by omega) 4
  have f5 := d5.2 (by omega)
  have g5 := gi_get (l := [0, 5, 1, 2]) d5.1 (by simp; omega)
  all_goals refine awpOps_cons (op_mvo rfl rfl rfl rfl) ?_
  all_goals refine awpOps_cons (op_ext rfl rfl rfl) ?_
  all_goals refine awpOps_cons (op_extm rfl rfl rfl rfl) ?_
  all_goals refine awpOps_cons (op_extm rfl rfl rfl rfl) ?_
  all_goals refine awpOps_cons (op_alloc (o := 7) z61_WrldS rfl rfl) ?_
  all_goals refine awpOps_cons (op_as rfl (Conv.of rfl) rfl) ?_
  all_goals refine awpOps_cons (op_asl rfl rfl rfl rfl) ?_
  all_goals refine awpOps_cons (op_stm ty61_WrldS rfl rfl rfl) ?_
  all_goals refine awpOps_nil ?_
  all_goals refine awp_seq (awp_region (id := 2) ?_)
  all_goals refine awpOps_cons (op_mv rfl (Conv.of rfl) rfl) ?_
  all_goals refine awpOps_cons (op_callO fb33 (.cons rfl (Conv.of rfl) (.cons rfl (Conv.of rfl) (.nil _))) (pick_ct r1 4 (by unfold Far at hf; omega)) (olsk rfl ols0) (oksk (by exact obOk_cell) oks0) (oksk (by exact obOk_cell) oks0) rfl (argOb rfl rfl rfl (argOk' rfl rfl argO0)) (fun o ho => by cases ho) rfl) ?_
  all_goals refine awpOps_cons (op_add rfl rfl rfl (by omega)) ?_
  all_goals refine awpOps_cons (op_as rfl (Conv.of rfl) rfl) ?_
  all_goals refine awpOps_nil ?_
  all_goals refine awp_seq (awp_seq (awp_region (id := 3) ?_))
  all_goals refine awpOps_cons (op_mv rfl (Conv.of rfl) rfl) ?_
  all_goals refine awpOps_cons (op_mv rfl (Conv.of rfl) rfl) ?_
  all_goals refine awpOps_cons (op_eql rfl rfl rfl) ?_
  all_goals refine awpOps_nil ?_
  have hid := idF_bd (bad := bad) (q := 1 + pk r1 4) (by omega)
  refine awp_to (s' := mkSt 57 [(0, .box 0 (IsLens.whole Rd)), (2, .box 5 (IsLens.whole Nod)), (3, .box 6 (IsLens.whole Wrld)), (6, .box 7 (IsLens.whole WrldS)), (7, .v (idF bad (1 + pk r1 4)))] [(0, .cell (nx r1 1)), (1, .arr (w.nodes.map sN)), (7, .cell (sW w)), (5, .cell Nod.zero), (6, .cell Wrld.zero)]) ?_ ?_
  · refine awp_cond rfl (fun h => ?_) (fun h => ?_)
    · have ht4 := tmod_bd (show (0 : Int) ≤ 1 + pk r1 4 by omega) (show (0 : Int) < 4 by omega)
      all_goals refine awp_region (id := 4) ?_
      all_goals refine awpOps_cons (op_mv rfl (Conv.of rfl) rfl) ?_
      all_goals refine awpOps_cons (op_rem rfl rfl rfl (by decide)) ?_
      all_goals refine awpOps_cons (op_add rfl rfl rfl (by omega)) ?_
      all_goals refine awpOps_cons (op_as rfl (Conv.of rfl) rfl) ?_
      all_goals refine awpOps_nil ?_
      all_goals exact Le.mk rfl (tlb rfl rfl rfl (tlb rfl rfl rfl (tlb rfl rfl rfl (tlb rfl rfl rfl (tle rfl (by (show AV.v _ = AV.v _; congr 1; unfold idF; rw [if_pos (by simpa using (show (1 + pk r1 4 == bad) = true from h))])) rfl tln))))) (olk rfl (by exact obOk_cell) (olk rfl (by exact obOkNs) (olk rfl (by exact obOkS rfl) (olk rfl (by exact obOk_cell) (olk rfl (by exact obOk_cell) oln))))) (hS_sub (a := [(0, .cell r)]) rfl)
    · refine awp_skip ?_
      all_goals exact Le.mk rfl (tlb rfl rfl rfl (tlb rfl rfl rfl (tlb rfl rfl rfl (tlb rfl rfl rfl (tle rfl (by (show AV.v _ = AV.v _; congr 1; unfold idF; rw [if_neg (by simpa using (show (1 + pk r1 4 == bad) = false from h))])) rfl tln))))) (olk rfl (by exact obOk_cell) (olk rfl (by exact obOkNs) (olk rfl (by exact obOkS rfl) (olk rfl (by exact obOk_cell) (olk rfl (by exact obOk_cell) oln))))) (hS_sub (a := [(0, .cell r)]) rfl)
  generalize idF bad (1 + pk r1 4) = id at hid ⊢
  have hx : w.nodes[(id - 1).toNat]? = some (w.nodes[(id - 1).toNat]'(by omega)) := List.getElem?_eq_getElem (by omega)
  generalize w.nodes[(id - 1).toNat]'(by omega) = n at hx
  have hx' : (w.nodes.map sN)[(id - 1).toNat]? = some (sN n) := by rw [List.getElem?_map, hx]; rfl
  have hln := hw.ln (List.mem_of_getElem? hx)
  have hlep := hln.ep
  have hnl := hw.lw.sl n (List.mem_of_getElem? hx)
  have hv := voteD_p hf2 (by omega)
  have hvf := voteD_far (m' := 20062) hf2 (by omega) (by omega)
  by_cases hq1 : pk (nx r1 1) 24 = 1
  · all_goals refine awp_seq (awp_region (id := 5) ?_)
    all_goals refine awpOps_cons (op_fab f61_1_WrldS rfl rfl) ?_
    all_goals refine awpOps_cons (op_ld ty59_NRef rfl rfl rfl) ?_
    all_goals refine awpOps_cons (op_mv rfl (Conv.of rfl) rfl) ?_
    all_goals refine awpOps_cons (op_sub rfl rfl rfl (by omega)) ?_
    all_goals refine awpOps_cons (op_ixA sl59_NodS rfl rfl rfl rfl ⟨by omega, by simp; omega⟩) ?_
    all_goals refine awpOps_cons (op_ldme ty25_NodS rfl rfl hx' rfl) ?_
    all_goals refine awpOps_cons (op_alloc (o := 8) z25_NodS rfl rfl) ?_
    all_goals refine awpOps_cons (op_stm ty25_NodS rfl rfl rfl) ?_
    all_goals refine awpOps_nil ?_
    all_goals refine awp_seq (awp_seq (awp_region (id := 6) ?_))
    all_goals refine awpOps_cons (op_mv rfl (Conv.of rfl) rfl) ?_
    all_goals refine awpOps_cons (op_callO fb33 (.cons rfl (Conv.of rfl) (.cons rfl (Conv.of rfl) (.nil _))) (pick_ct (nx r1 1) 24 (by unfold Far at hf1; omega)) (olsk rfl ols0) (oksk (by exact obOk_cell) oks0) (oksk (by exact obOk_cell) oks0) rfl (argOb rfl rfl rfl (argOk' rfl rfl argO0)) (fun o ho => by cases ho) rfl) ?_
    all_goals refine awpOps_nil ?_
    rw [hq1]
    refine awp_to (s' := mkSt 57 [(0, .box 0 (IsLens.whole Rd)), (2, .box 5 (IsLens.whole Nod)), (3, .box 6 (IsLens.whole Wrld)), (6, .box 7 (IsLens.whole WrldS)), (8, .box 8 (IsLens.whole NodS))] [(0, .cell (voteDF (nx (nx r1 1) 1)).2), (1, .arr ((w.nodes.map sN).set (id - 1).toNat (fN n))), (7, .cell (sW w)), (8, .cell (sN { n with seen := n.seen ++ [(voteDF (nx (nx r1 1) 1)).1] })), (5, .cell Nod.zero), (6, .cell Wrld.zero)]) ?_ ?_
    · refine awp_block ?_
      all_goals refine awp_seq (awp_region (id := 7) ?_)
      all_goals refine awpOps_cons (op_eql rfl rfl rfl) ?_
      all_goals refine awpOps_cons (op_as rfl (Conv.of rfl) rfl) ?_
      all_goals refine awpOps_nil ?_
      refine awp_cond rfl (fun h => absurd h (by decide)) (fun h => ?_)
      all_goals refine awp_seq (awp_region (id := 9) ?_)
      all_goals refine awpOps_cons (op_eql rfl rfl rfl) ?_
      all_goals refine awpOps_cons (op_as rfl (Conv.of rfl) rfl) ?_
      all_goals refine awpOps_nil ?_
      refine awp_cond rfl (fun h => ?_) (fun h => absurd h (by decide))
      all_goals refine dr_start (id := 10) ?_
      all_goals refine dr_cons (op_fab f25_3_NodS rfl rfl) ?_
      all_goals refine dr_cons (op_ldm ty23_OListVote rfl rfl rfl) ?_
      all_goals refine dr_cons (op_mv rfl (Conv.of rfl) rfl) ?_
      all_goals refine dr_cons (op_callO fb32 (.cons rfl (Conv.of rfl) (.nil _)) (voteD_ct (nx (nx r1 1) 1) (hf2.weak (by omega))) (olsk rfl ols0) (oksk (by exact obOk_cell) oks0) (oksk (by exact obOk_cell) oks0) rfl (argOb rfl rfl rfl argO0) (fun o ho => by cases ho) rfl) ?_
      all_goals refine dr_cons (op_bsl sl23 z28 (.cons rfl (Conv.of rfl) (.nil _)) rfl (by decide) rfl) ?_
      all_goals refine dr_cons (op_app sl23 z28 ul23 rfl rfl rfl (by (simp [sN]; omega)) (by (simp [sN]; omega)) rfl rfl) ?_
      all_goals refine dr_cons (op_fab f25_3_NodS rfl rfl) ?_
      all_goals refine dr_cons (op_stm ty23_OListVote rfl rfl rfl) ?_
      all_goals refine dr_nil mixed rfl ?_
      all_goals exact Le.mk rfl (tlb rfl rfl rfl (tlb rfl rfl rfl (tlb rfl rfl rfl (tlb rfl rfl rfl (tlb rfl rfl rfl tln))))) (olk rfl (by exact obOk_cell) (olk rfl (by exact obOkNs) (olk rfl (by exact obOkS rfl) (olk rfl (by exact obOkN) (olk rfl (by exact obOk_cell) (olk rfl (by exact obOk_cell) oln)))))) (hS_sub (a := [(0, .cell r)]) rfl)
    refine awp_le (Le.trans (b := mkSt 57 [(6, .box 7 (IsLens.whole WrldS)), (0, .box 0 (IsLens.whole Rd)), (2, .box 5 (IsLens.whole Nod)), (3, .box 6 (IsLens.whole Wrld)), (8, .box 8 (IsLens.whole NodS))] [(7, .cell (WrldS.mk w.epoch (.ref 1) ⟨w.log, true⟩ w.bad)), (1, .arr ((w.nodes.map sN).set (id - 1).toNat (fN n))), (0, .cell (voteDF (nx (nx r1 1) 1)).2), (8, .cell (sN { n with seen := n.seen ++ [(voteDF (nx (nx r1 1) 1)).1] })), (5, .cell Nod.zero), (6, .cell Wrld.zero)]) (Le.mk rfl (tlb rfl rfl rfl (tlb rfl rfl rfl (tlb rfl rfl rfl (tlb rfl rfl rfl (tlb rfl rfl rfl tln))))) (olk rfl (by exact obOkS rfl) (olk rfl (by exact obOkNs) (olk rfl (by exact obOk_cell) (olk rfl (by exact obOkN) (olk rfl (by exact obOk_cell) (olk rfl (by exact obOk_cell) oln)))))) (hS_sub (a := [(0, .cell r)]) rfl)) (Le.frzWr (t := 6) (c := 7) (o := 1) (w0 := w) (own := true) (fun _ _ => arr_nF hx) (by show _ ≤ 4611686018427387904; omega) rfl (hS_sub rfl) rfl rfl rfl (oblk obOk_cell (oblk obOkN (oblk obOk_cell (oblk obOk_cell obl0)))))) ?_
    refine awp_le (Le.trans (b := mkSt 57 [(8, .box 8 (IsLens.whole NodS)), (6, .box 7 (IsLens.whole Wrld)), (0, .box 0 (IsLens.whole Rd)), (2, .box 5 (IsLens.whole Nod)), (3, .box 6 (IsLens.whole Wrld))] [(8, .cell (sN { n with seen := n.seen ++ [(voteDF (nx (nx r1 1) 1)).1] })), (7, .cell w), (0, .cell (voteDF (nx (nx r1 1) 1)).2), (5, .cell Nod.zero), (6, .cell Wrld.zero)]) (Le.mk rfl (tlb rfl rfl rfl (tlb rfl rfl rfl (tlb rfl rfl rfl (tlb rfl rfl rfl (tlb rfl rfl rfl tln))))) (olk rfl (by exact obOkN) (olk rfl (by exact obOk_cell) (olk rfl (by exact obOk_cell) (olk rfl (by exact obOk_cell) (olk rfl (by exact obOk_cell) oln))))) (hS_sub (a := [(0, .cell r)]) rfl)) (Le.recell (y := { n with seen := n.seen ++ [(voteDF (nx (nx r1 1) 1)).1] }) (fun G w ω cs hh => rd_SN hh))) ?_
    all_goals refine awp_seq (dr_start (id := 13) ?_)
    all_goals refine dr_cons (op_ld ty25_Nod rfl rfl rfl) ?_
    all_goals refine dr_cons (op_ld ty61_Wrld rfl rfl rfl) ?_
    all_goals refine dr_cons (op_st ty25_Nod rfl rfl (Conv.of rfl) rfl) ?_
    all_goals refine dr_cons (op_st ty61_Wrld rfl rfl (Conv.of rfl) rfl) ?_
    all_goals refine dr_nil mixed rfl ?_
    refine awp_ret ?_
    repeat first | refine rt_seq ?_ | refine rt_block ?_
    exact ⟨_, _, resN (ol := [(0, .cell (voteDF (nx (nx r1 1) 1)).2)]) (.cons (.rc ty25_Nod rfl rfl) (.cons (.rc ty61_Wrld rfl rfl) .nil)) rfl (fun o ho => absurd (show o ∈ ([] : List Nat) from ho) (by simp)) (olk rfl obOk_cell oln) (hS_sub rfl), _, _, _, rfl, rfl, ⟨hln.ep, by simp; omega, fun v hvv => by
      rcases List.mem_append.1 hvv with q | q
      · exact hln.sc v q
      · simp at q; subst q; omega⟩, hw, hvf.weak (by omega)⟩
  · refine awp_le (Le.trans (b := mkSt 57 [(6, .box 7 (IsLens.whole WrldS)), (0, .box 0 (IsLens.whole Rd)), (2, .box 5 (IsLens.whole Nod)), (3, .box 6 (IsLens.whole Wrld)), (7, .v id)] [(7, .cell (WrldS.mk w.epoch (.ref 1) ⟨w.log, true⟩ w.bad)), (1, .arr (w.nodes.map sN)), (0, .cell (nx r1 1)), (5, .cell Nod.zero), (6, .cell Wrld.zero)]) (Le.mk rfl (tlb rfl rfl rfl (tlb rfl rfl rfl (tlb rfl rfl rfl (tlb rfl rfl rfl (tle rfl (rfl) rfl tln))))) (olk rfl (by exact obOkS rfl) (olk rfl (by exact obOkNs) (olk rfl (by exact obOk_cell) (olk rfl (by exact obOk_cell) (olk rfl (by exact obOk_cell) oln))))) (hS_sub (a := [(0, .cell r)]) rfl)) (Le.frzW (t := 6) (c := 7) (o := 1) (w0 := w) (own := true) (by show _ ≤ 4611686018427387904; omega) rfl (hS_sub rfl) rfl rfl rfl (oblk obOk_cell (oblk obOk_cell (oblk obOk_cell obl0))))) ?_
    all_goals refine awp_seq (awp_region (id := 5) ?_)
    all_goals refine awpOps_cons (op_fab f61_1_Wrld rfl rfl) ?_
    all_goals refine awpOps_cons (op_ld ty59_ListNod rfl rfl rfl) ?_
    all_goals refine awpOps_cons (op_mv rfl (Conv.of rfl) rfl) ?_
    all_goals refine awpOps_cons (op_sub rfl rfl rfl (by omega)) ?_
    all_goals refine awpOps_cons (op_ix sl59 rfl rfl rfl (by omega) hx) ?_
    all_goals refine awpOps_cons (op_ldr ty25_Nod rfl rfl) ?_
    all_goals refine awpOps_cons (op_alloc (o := 8) z25_Nod rfl rfl) ?_
    all_goals refine awpOps_cons (op_st ty25_Nod rfl rfl (Conv.of rfl) rfl) ?_
    all_goals refine awpOps_nil ?_
    all_goals refine awp_seq (awp_seq (awp_region (id := 6) ?_))
    all_goals refine awpOps_cons (op_mv rfl (Conv.of rfl) rfl) ?_
    all_goals refine awpOps_cons (op_callO fb33 (.cons rfl (Conv.of rfl) (.cons rfl (Conv.of rfl) (.nil _))) (pick_ct (nx r1 1) 24 (by unfold Far at hf1; omega)) (olsk rfl ols0) (oksk (by exact obOk_cell) oks0) (oksk (by exact obOk_cell) oks0) rfl (argOb rfl rfl rfl (argOk' rfl rfl argO0)) (fun o ho => by cases ho) rfl) ?_
    all_goals refine awpOps_nil ?_
    generalize pk (nx r1 1) 24 = q at hq1 ⊢
    refine nx_seq (awp_to_ex (ι := Nod × Rd) (fun i => mkSt 57 [(0, .box 0 (IsLens.whole Rd)), (2, .box 5 (IsLens.whole Nod)), (3, .box 6 (IsLens.whole Wrld)), (6, .box 7 (IsLens.whole Wrld)), (8, .box 8 (IsLens.whole Nod))] [(0, .cell i.2), (7, .cell w), (8, .cell i.1), (5, .cell Nod.zero), (6, .cell Wrld.zero)]) (fun i => Ln i.1 ∧ Far 21000 i.2) ?_ ?_)
    · refine awp_block ?_
      all_goals refine awp_seq (awp_region (id := 7) ?_)
      all_goals refine awpOps_cons (op_eql rfl rfl rfl) ?_
      all_goals refine awpOps_cons (op_as rfl (Conv.of rfl) rfl) ?_
      all_goals refine awpOps_nil ?_
      refine awp_cond rfl (fun h => ?_) (fun h => ?_)
      · all_goals refine awp_region (id := 8) ?_
        all_goals refine awpOps_cons (op_fab f25_1_Nod rfl rfl) ?_
        all_goals refine awpOps_cons (op_ld ty3 rfl rfl rfl) ?_
        all_goals refine awpOps_cons (op_add rfl rfl rfl (by omega)) ?_
        all_goals refine awpOps_cons (op_fab f25_2_Nod rfl rfl) ?_
        all_goals refine awpOps_cons (op_st ty3 rfl rfl (Conv.of rfl) rfl) ?_
        all_goals refine awpOps_nil ?_
        repeat first | refine nx_seq ?_ | refine nx_block ?_
        exact ⟨({ n with voted := n.epoch + 1 }, nx (nx r1 1) 1), ⟨⟨hln.ep, hln.sl, hln.sc⟩, hf2.weak (by omega)⟩, Le.mk rfl (tlb rfl rfl rfl (tlb rfl rfl rfl (tlb rfl rfl rfl (tlb rfl rfl rfl (tlb rfl rfl rfl tln))))) (olk rfl (by exact obOk_cell) (olk rfl (by exact obOk_cell) (olk rfl (by exact obOk_cell) (olk rfl (by exact obOk_cell) (olk rfl (by exact obOk_cell) oln))))) (hS_sub (a := [(0, .cell r)]) rfl)⟩
      · all_goals refine awp_seq (awp_region (id := 9) ?_)
        all_goals refine awpOps_cons (op_eql rfl rfl rfl) ?_
        all_goals refine awpOps_cons (op_as rfl (Conv.of rfl) rfl) ?_
        all_goals refine awpOps_nil ?_
        refine awp_cond rfl (fun h2 => absurd (of_decide_eq_true h2) hq1) (fun h2 => ?_)
        all_goals refine awp_seq (awp_region (id := 11) ?_)
        all_goals refine awpOps_cons (op_eql rfl rfl rfl) ?_
        all_goals refine awpOps_cons (op_as rfl (Conv.of rfl) rfl) ?_
        all_goals refine awpOps_nil ?_
        refine awp_cond rfl (fun h3 => ?_) (fun h3 => ?_)
        · all_goals refine awp_region (id := 12) ?_
          all_goals refine awpOps_cons (op_bsl sl52 z3 (.cons rfl (Conv.of rfl) (.cons rfl (Conv.of rfl) (.cons rfl (Conv.of rfl) (.cons rfl (Conv.of rfl) (.nil _))))) rfl (by decide) rfl) ?_
          all_goals refine awpOps_cons (op_mv rfl (Conv.of rfl) rfl) ?_
          all_goals refine awpOps_cons (op_callO fb33 (.cons rfl (Conv.of rfl) (.cons rfl (Conv.of rfl) (.nil _))) (pick_ct (nx (nx r1 1) 1) 4 (by unfold Far at hf2; omega)) (olsk rfl ols0) (oksk (by exact obOk_cell) oks0) (oksk (by exact obOk_cell) oks0) rfl (argOb rfl rfl rfl (argOk' rfl rfl argO0)) (fun o ho => by cases ho) rfl) ?_
          all_goals refine awpOps_cons (op_ix sl52 rfl rfl rfl d5.1 g5) ?_
          all_goals refine awpOps_cons (op_ldr ty3 rfl rfl) ?_
          all_goals refine awpOps_cons (op_fab f25_0_Nod rfl rfl) ?_
          all_goals refine awpOps_cons (op_st ty3 rfl rfl (Conv.of rfl) rfl) ?_
          all_goals refine awpOps_nil ?_
          repeat first | refine nx_seq ?_ | refine nx_block ?_
          exact ⟨({ n with id := gi [0, 5, 1, 2] (pk (nx (nx r1 1) 1) 4) }, nx (nx (nx r1 1) 1) 1), ⟨⟨hln.ep, hln.sl, hln.sc⟩, hf3.weak (by omega)⟩, Le.mk rfl (tlb rfl rfl rfl (tlb rfl rfl rfl (tlb rfl rfl rfl (tlb rfl rfl rfl (tlb rfl rfl rfl tln))))) (olk rfl (by exact obOk_cell) (olk rfl (by exact obOk_cell) (olk rfl (by exact obOk_cell) (olk rfl (by exact obOk_cell) (olk rfl (by exact obOk_cell) oln))))) (hS_sub (a := [(0, .cell r)]) rfl)⟩
        · refine awp_skip ?_
          repeat first | refine nx_seq ?_ | refine nx_block ?_
          exact ⟨(n, nx (nx r1 1) 1), ⟨hln, hf2.weak (by omega)⟩, Le.mk rfl (tlb rfl rfl rfl (tlb rfl rfl rfl (tlb rfl rfl rfl (tlb rfl rfl rfl (tlb rfl rfl rfl tln))))) (olk rfl (by exact obOk_cell) (olk rfl (by exact obOk_cell) (olk rfl (by exact obOk_cell) (olk rfl (by exact obOk_cell) (olk rfl (by exact obOk_cell) oln))))) (hS_sub (a := [(0, .cell r)]) rfl)⟩
    · rintro ⟨m, r2⟩ ⟨hm, hr2⟩
      simp only at hm hr2 ⊢
      all_goals refine awp_seq (dr_start (id := 13) ?_)
      all_goals refine dr_cons (op_ld ty25_Nod rfl rfl rfl) ?_
      all_goals refine dr_cons (op_ld ty61_Wrld rfl rfl rfl) ?_
      all_goals refine dr_cons (op_st ty25_Nod rfl rfl (Conv.of rfl) rfl) ?_
      all_goals refine dr_cons (op_st ty61_Wrld rfl rfl (Conv.of rfl) rfl) ?_
      all_goals refine dr_nil mixed rfl ?_
      refine awp_ret ?_
      repeat first | refine rt_seq ?_ | refine rt_block ?_
      exact ⟨_, _, resN (ol := [(0, .cell r2)]) (.cons (.rc ty25_Nod rfl rfl) (.cons (.rc ty61_Wrld rfl rfl) .nil)) rfl (fun o ho => absurd (show o ∈ ([] : List Nat) from ho) (by simp)) (olk rfl obOk_cell oln) (hS_sub rfl), _, _, _, rfl, rfl, hm, hw, hr2⟩
end Go.Proofs.Ytmabpmlcclgecaa

/- The reference: drawn nodes and votes. -/
set_option linter.unusedVariables false
set_option linter.unusedSimpArgs false
namespace Go.Proofs.Ytmabpmlcclgecaa
open Go Go.Wt
set_option maxHeartbeats 4000000 in
theorem drawNodeOk_ct (code : List UInt8) : Ct Try.prog 56 [.v code] noObj (fun r1 h1 => ∃ n : Nod, r1 = .v n ∧ h1 = noObj ∧ Ln n) := by
  refine Ct.intro Try.func56 rfl rfl ?_
  all_goals first | refine awp_seq (awp_region (id := 0) ?_) | refine awp_seq (awp_seq (awp_region (id := 0) ?_)) | refine awp_region (id := 0) ?_ | refine awp_seq (awp_seq (awp_seq (awp_region (id := 0) ?_)))
  all_goals refine awpOps_cons (op_alloc (o := 5) z25 rfl rfl) ?_
  all_goals refine awpOps_nil ?_
  all_goals first | refine awp_seq (awp_region (id := 1) ?_) | refine awp_seq (awp_seq (awp_region (id := 1) ?_)) | refine awp_region (id := 1) ?_ | refine awp_seq (awp_seq (awp_seq (awp_region (id := 1) ?_)))
  all_goals first | refine awpOps_cons (op_mv rfl (Conv.of rfl) rfl) ?_ | refine awpOps_cons (op_mvl rfl rfl rfl rfl) ?_ | refine awpOps_cons (op_mvo rfl rfl rfl rfl) ?_
  refine awpOps_callO [] rfl fb30 (.cons rfl (Conv.of rfl) (.nil _)) (l6Open_ct code) ols0 oks0 (argOk' rfl rfl argO0) rfl ?_
  rintro r_ h' ⟨rfl, rfl⟩
  refine ⟨[(0, .cell (Rd.mk (code.take 2000) 0))], rfl, (fun o ho => by cases ho), fun o ho _ => ?_, oksk obOk_cell oks0, fun o ho => ?_, ?_⟩
  · have : o = 0 := by simpa [keys, lk0] using ho
    subst this; rfl
  · have : o = 0 := by simpa using (show o ∈ [0] from ho)
    subst this; rfl
  have hf0 : Far 1000 (Rd.mk (code.take 2000) 0) := ⟨by simp, by simp⟩
  generalize Rd.mk (code.take 2000) 0 = r0 at hf0 ⊢
  refine awpOps_callE (ι := Nod × Wrld × Rd) [(0, .cell r0)] (fun i => .tup [.v i.1, .v i.2.1]) (fun i => [(0, .cell i.2.2)]) (fun i => Ln i.1 ∧ FineX i.2.1 ∧ Far 21000 i.2.2) rfl fb31 (.cons rfl (Conv.of rfl) (.nil _)) (l72Node_ct r0 hf0) (fun r h' ⟨n, w, r', e1, e2, e3, e4, e5⟩ => ⟨(n, w, r'), e1, e2, e3, e4, e5⟩) (olsk rfl ols0) (oksk obOk_cell oks0) (argOb rfl rfl rfl argO0) rfl (fun i => rfl) (fun i => oksk obOk_cell oks0) (fun i o ho => by cases ho) ?_
  rintro ⟨n, w, r1⟩ ⟨hn, hw, hf1⟩
  simp only at hn hw hf1 ⊢
  all_goals first | refine awpOps_cons (op_mv rfl (Conv.of rfl) rfl) ?_ | refine awpOps_cons (op_mvl rfl rfl rfl rfl) ?_ | refine awpOps_cons (op_mvo rfl rfl rfl rfl) ?_
  all_goals refine awpOps_cons (op_ext rfl rfl rfl) ?_
  all_goals refine awpOps_cons (op_ext rfl rfl rfl) ?_
  all_goals refine awpOps_cons (op_alloc (o := 7) z25 rfl rfl) ?_
  all_goals refine awpOps_cons (op_alloc (o := 8) z61 rfl rfl) ?_
  all_goals first | refine awpOps_cons (op_st ty25 rfl rfl (Conv.of rfl) rfl) ?_ | refine awpOps_cons (op_ste ty25 rfl rfl (Conv.of rfl) rfl (by assumption)) ?_ | refine awpOps_cons (op_stm ty25 rfl rfl rfl) ?_ | refine awpOps_cons (op_stme ty25 rfl rfl rfl (by assumption)) ?_
  all_goals first | refine awpOps_cons (op_st ty61 rfl rfl (Conv.of rfl) rfl) ?_ | refine awpOps_cons (op_ste ty61 rfl rfl (Conv.of rfl) rfl (by assumption)) ?_ | refine awpOps_cons (op_stm ty61 rfl rfl rfl) ?_ | refine awpOps_cons (op_stme ty61 rfl rfl rfl (by assumption)) ?_
  all_goals refine awpOps_nil ?_
  all_goals first | refine awp_seq (awp_region (id := 2) ?_) | refine awp_seq (awp_seq (awp_region (id := 2) ?_)) | refine awp_region (id := 2) ?_ | refine awp_seq (awp_seq (awp_seq (awp_region (id := 2) ?_)))
  all_goals first | refine awpOps_cons (op_ld ty25 rfl rfl rfl) ?_ | refine awpOps_cons (op_ldr ty25 rfl rfl) ?_ | refine awpOps_cons (op_lde ty25 rfl rfl (by assumption) rfl) ?_ | refine awpOps_cons (op_ldl ty25 rfl rfl rfl) ?_ | refine awpOps_cons (op_ldd ty25 rfl rfl rfl) ?_ | refine awpOps_cons (op_ldde ty25 rfl rfl (by assumption) rfl) ?_
  all_goals first | refine awpOps_cons (op_st ty25 rfl rfl (Conv.of rfl) rfl) ?_ | refine awpOps_cons (op_ste ty25 rfl rfl (Conv.of rfl) rfl (by assumption)) ?_ | refine awpOps_cons (op_stm ty25 rfl rfl rfl) ?_ | refine awpOps_cons (op_stme ty25 rfl rfl rfl (by assumption)) ?_
  all_goals refine awpOps_nil ?_
  refine awp_ret ?_
  repeat first | refine rt_seq ?_ | refine rt_block ?_
  exact ⟨_, _, res1 (ol := []) (.rc ty25 rfl rfl) (fun o ho => by cases ho) oln noS, _, rfl, rfl, hn⟩
theorem drawNodeBook_ct (code : List UInt8) : Ct Try.prog 23 [.v code] noObj (fun r1 h1 => ∃ n : Nod, r1 = .v n ∧ h1 = noObj ∧ Ln n) := by
  refine Ct.intro Try.func23 rfl rfl ?_
  all_goals first | refine awp_seq (awp_region (id := 0) ?_) | refine awp_seq (awp_seq (awp_region (id := 0) ?_)) | refine awp_region (id := 0) ?_ | refine awp_seq (awp_seq (awp_seq (awp_region (id := 0) ?_)))
  all_goals refine awpOps_cons (op_alloc (o := 5) z25 rfl rfl) ?_
  all_goals refine awpOps_nil ?_
  all_goals first | refine awp_seq (awp_region (id := 1) ?_) | refine awp_seq (awp_seq (awp_region (id := 1) ?_)) | refine awp_region (id := 1) ?_ | refine awp_seq (awp_seq (awp_seq (awp_region (id := 1) ?_)))
  all_goals first | refine awpOps_cons (op_mv rfl (Conv.of rfl) rfl) ?_ | refine awpOps_cons (op_mvl rfl rfl rfl rfl) ?_ | refine awpOps_cons (op_mvo rfl rfl rfl rfl) ?_
  refine awpOps_callE (ι := Nod) [] (fun i => .v i) (fun _ => []) (fun i => Ln i) rfl fb56 (.cons rfl (Conv.of rfl) (.nil _)) (drawNodeOk_ct code) (fun r h' ⟨n, e1, e2, e3⟩ => ⟨n, e1, e2, e3⟩) ols0 oks0 (argOk' rfl rfl argO0) rfl (fun _ => rfl) (fun _ => oks0) (fun _ o ho => by cases ho) ?_
  rintro n hn
  all_goals first | refine awpOps_cons (op_st ty25 rfl rfl (Conv.of rfl) rfl) ?_ | refine awpOps_cons (op_ste ty25 rfl rfl (Conv.of rfl) rfl (by assumption)) ?_ | refine awpOps_cons (op_stm ty25 rfl rfl rfl) ?_ | refine awpOps_cons (op_stme ty25 rfl rfl rfl (by assumption)) ?_
  all_goals refine awpOps_nil ?_
  refine awp_ret ?_
  repeat first | refine rt_seq ?_ | refine rt_block ?_
  exact ⟨_, _, res1 (ol := []) (.rc ty25 rfl rfl) (fun o ho => by cases ho) oln noS, _, rfl, rfl, hn⟩
end Go.Proofs.Ytmabpmlcclgecaa

/- Quiet epochs. -/
set_option linter.unusedVariables false
set_option linter.unusedSimpArgs false
namespace Go.Proofs.Ytmabpmlcclgecaa
open Go Go.Wt
end Go.Proofs.Ytmabpmlcclgecaa
