/- Part 4 of the proof: texts one behind the other. -/
import Derived.Test.YtmhmeppocbcmeaaGreatM3
/- The reference: draws of plays. -/
set_option linter.unusedVariables false
set_option linter.unusedSimpArgs false
namespace Go.Proofs.YtmhmeppocbcmeaaGreat
open Go Go.Wt
set_option maxHeartbeats 8000000 in
theorem l72Play_ct (r : Rd) (hp : Far 1000 r) : Ct Tryz.prog 90 [.box 0 (IsLens.whole Rd)] (obs [(0, .cell r)]) (fun r1 h1 => ∃ (bad : Int) (evs : List Evt) (w : Wrld) (r' : Rd), r1 = .tup [.v bad, .v (OList.mk evs true), .v (sW w)] ∧ h1 = obs (ro r' w) ∧ evs.length ≤ 100 ∧ within bad 0 4 = true ∧ FineX w ∧ Far 20000 r') := by
  have hq0 := pk_bd hp (by omega) 5
  have hq0' := hq0.2 (by omega)
  have hf1 : Far 1001 (nx r 1) := hp.nx (by omega) (by omega)
  have hq1 := pk_bd hf1 (by omega) 5
  have hq1' := hq1.2 (by omega)
  have hf2 : Far 1002 (nx (nx r 1) 1) := hf1.nx (by omega) (by omega)
  refine Ct.intro Tryz.func90 rfl rfl ?_
  all_goals refine aS (aR ?_)
  all_goals refine oC (oA rfl (Conv.of rfl) rfl) ?_
  all_goals refine oC (oA rfl (Conv.of rfl) rfl) ?_
  all_goals refine oC (oX (o := 5) z26_WrldS rfl rfl) ?_
  all_goals refine oN ?_
  all_goals refine aS (aR ?_)
  all_goals refine oC (oM rfl (Conv.of rfl) rfl) ?_
  all_goals refine oC (oLO fb40 (.cons rfl (Conv.of rfl) (.cons rfl (Conv.of rfl) (.nil _))) (pick_ct r 5 (by unfold Far at hp; omega)) (olsk rfl ols0) (kK (by exact bC) k0) (kK (by exact bC) k0) rfl (argOb rfl rfl rfl (argOk' rfl rfl argO0)) (fun o ho => by cases ho) rfl) ?_
  all_goals refine oC (oA rfl (Conv.of rfl) rfl) ?_
  all_goals refine oN ?_
  have hb : within (pk r 5) 0 4 = true := by simp [within]; omega
  generalize pk r 5 = bad at hq0 hq0' hb ⊢
  all_goals refine aS (aR ?_)
  all_goals refine oC (oM rfl (Conv.of rfl) rfl) ?_
  refine awpOps_callO [] rfl fb62 (.cons rfl (Conv.of rfl) (.nil _)) (sWorldNew_w bad hb) ols0 k0 (argOk' rfl rfl argO0) rfl ?_
  rintro r_ h' ⟨rfl, rfl⟩
  refine ⟨so (newW bad), rfl, (fun o ho => by cases ho), fun o ho _ => ?_, kK bN k0, fun o ho => ?_, ?_⟩
  · have : o = 1 := by simpa [keys, lk0] using ho
    subst this; rfl
  · have : o = 1 := by simpa using (show o ∈ [1] from ho)
    subst this; rfl
  all_goals refine oC (op_mvo rfl rfl rfl rfl) ?_
  all_goals refine oC (op_extm rfl rfl rfl rfl) ?_
  all_goals refine oC (op_ext rfl rfl rfl) ?_
  all_goals refine oC (oX (o := 6) z26_WrldS rfl rfl) ?_
  all_goals refine oC (op_stm ty26_WrldS rfl rfl rfl) ?_
  all_goals refine oC (oA rfl (Conv.of rfl) rfl) ?_
  all_goals refine oN ?_
  all_goals refine aS (aR ?_)
  all_goals refine oC (op_bsl sl45 z77 (.nil _) rfl (by decide) rfl) ?_
  all_goals refine oC (op_asl rfl rfl rfl rfl) ?_
  all_goals refine oN ?_
  all_goals refine aS (aS (aR ?_))
  all_goals refine oC (oM rfl (Conv.of rfl) rfl) ?_
  all_goals refine oC (oLO fb40 (.cons rfl (Conv.of rfl) (.cons rfl (Conv.of rfl) (.nil _))) (pick_ct (nx r 1) 5 (by unfold Far at hf1; omega)) (olsk rfl ols0) (kK (by exact bC) k0) (kK (by exact bC) k0) rfl (argOb rfl rfl rfl (argOk' rfl rfl argO0)) (fun o ho => by cases ho) rfl) ?_
  all_goals refine oC (oA rfl (Conv.of rfl) rfl) ?_
  all_goals refine oN ?_
  generalize pk (nx r 1) 5 = n0 at hq1 hq1' ⊢
  generalize nx (nx r 1) 1 = r0 at hf2 ⊢
  refine aB ?_
  refine awp_loop' (fun n_ s => ∃ (k : Nat), ∃ (evs : List Evt), ∃ (w : Wrld), ∃ (r1 : Rd), ∃ (hk : n_ + k = n0.toNat), ∃ (hw : FineX w), ∃ (he : evs.length ≤ 10 * k), ∃ (hf : Far (1002 + 3 * (k : Int)) r1), s = mkSt 120 [(0, .box 0 (IsLens.whole Rd)), (4, .box 5 (IsLens.whole WrldS)), (5, .v bad), (6, .box 6 (IsLens.whole WrldS)), (8, .v (OList.mk evs true)), (9, .v (n0 - (k : Int)))] [(0, .cell r1), (1, .arr (Wrld.nodes w |>.map sN)), (5, .cell WrldS.zero), (6, .cell (sW w))]) (n0.toNat) ⟨0, [], newW bad, r0, by omega, newW_ok bad, by simp, by simpa using hf2, rfl⟩ (Le.mk rfl (tlb rfl rfl rfl (tlb rfl rfl rfl (tle rfl (rfl) rfl (tlb rfl rfl rfl (tle rfl (rfl) rfl (tle rfl (by (show AV.v _ = AV.v _; congr 1; omega)) rfl tln)))))) (olk rfl (by exact bC) (olk rfl (by exact bN) (olk rfl (by exact obOkS0) (olk rfl (by exact obOkS rfl) oln)))) (hU (a := [(0, .cell r)]) rfl)) ?_
  rintro n_ s ⟨k, evs, w, r1, hk, hw, he, hf, rfl⟩
  have hk4 : k ≤ 4 := by omega
  have hep := hw.ep
  all_goals refine aS (aS (aR ?_))
  all_goals refine oC (oM rfl (Conv.of rfl) rfl) ?_
  all_goals refine oC (op_gtr rfl rfl rfl) ?_
  all_goals refine oN ?_
  refine aC rfl (fun h => ?_) (fun h => ?_)
  · have hlt : (k : Int) < n0 := by have := of_decide_eq_true h; omega
    refine aW ?_
    refine aS (aB ?_)
    all_goals refine aS (aS (aR ?_))
    all_goals refine oC (op_build (.cons f77_0 rfl (Conv.of rfl) (.nil _)) z77 rfl pl77 rfl) ?_
    all_goals refine oC (oF f26_0_WrldS rfl rfl) ?_
    all_goals refine oC (oD ty3 rfl rfl rfl) ?_
    all_goals refine oC (oP rfl rfl rfl (by (simp only [sW]; omega))) ?_
    all_goals refine oC (oL fb80 (.cons rfl (Conv.of rfl) (.nil _)) (l3Leader_ct _ (by simp only [sW]; omega)) (aK rfl rfl aK0) rfl rfl) ?_
    all_goals refine oC (oM rfl (Conv.of rfl) rfl) ?_
    all_goals refine oC (oLO fb39 (.cons rfl (Conv.of rfl) (.nil _)) (l71Pay_ct r1 (hf.weak (by omega))) (olsk rfl ols0) (kK (by exact bC) k0) (kK (by exact bC) k0) rfl (argOb rfl rfl rfl argO0) (fun o ho => by cases ho) rfl) ?_
    all_goals refine oC (op_build (.cons f77_0 rfl (Conv.of rfl) (.cons f77_1 rfl (Conv.of rfl) (.cons f77_3 rfl (Conv.of rfl) (.nil _)))) z77 rfl pl77 rfl) ?_
    all_goals refine oC (op_bsl sl45 z77 (.cons rfl (Conv.of rfl) (.cons rfl (Conv.of rfl) (.nil _))) rfl (by decide) rfl) ?_
    all_goals refine oC (oE sl45 rfl rfl) ?_
    all_goals refine oC (oM rfl (Conv.of rfl) rfl) ?_
    all_goals refine oN ?_
    have hf3 : Far (1005 + 3 * (k : Int)) (nx r1 3) := hf.nx (by omega) (by omega)
    generalize hes : ([{ kind := 1, a := 0, b := 0, pay := Pay.zero, vote := Vote.zero }, { kind := 2, a := leadS ((sW w).epoch + 1), b := 0, pay := payV r1, vote := Vote.zero }] : List Evt) = es
    have hes2 : es.length = 2 := by rw [← hes]; rfl
    generalize nx r1 3 = r2 at hf3 ⊢
    refine nS (awp_to_ex (ι := List Evt × Wrld) (fun i => mkSt 120 [(0, .box 0 (IsLens.whole Rd)), (4, .box 5 (IsLens.whole WrldS)), (5, .v bad), (6, .box 6 (IsLens.whole WrldS)), (8, .v (OList.mk i.1 true)), (9, .v (n0 - (k : Int)))] [(0, .cell r2), (1, .arr (Wrld.nodes i.2 |>.map sN)), (5, .cell WrldS.zero), (6, .cell (sW i.2))]) (fun i => FineX i.2 ∧ i.1.length ≤ 10 * k + 2) ?_ ?_)
    · refine aB ?_
      refine awp_loop' (fun n_ s => ∃ (j : Nat), ∃ (evs2 : List Evt), ∃ (w2 : Wrld), ∃ (hj : n_ + j = 2), ∃ (hw2 : FineX w2), ∃ (he2 : evs2.length ≤ 10 * k + j), s = mkSt 120 [(0, .box 0 (IsLens.whole Rd)), (4, .box 5 (IsLens.whole WrldS)), (5, .v bad), (6, .box 6 (IsLens.whole WrldS)), (8, .v (OList.mk evs2 true)), (9, .v (n0 - (k : Int))), (39, .v (OList.mk es true)), (40, .v (2 : Int)), (41, .v (j : Int))] [(0, .cell r2), (1, .arr (Wrld.nodes w2 |>.map sN)), (5, .cell WrldS.zero), (6, .cell (sW w2))]) (2) ⟨0, evs, w, by omega, hw, by omega, rfl⟩ (Le.mk rfl (tlb rfl rfl rfl (tlb rfl rfl rfl (tle rfl (rfl) rfl (tlb rfl rfl rfl (tle rfl (rfl) rfl (tle rfl (rfl) rfl (tle rfl (by (rw [← hes]; rfl)) rfl (tle rfl (rfl) rfl (tle rfl (rfl) rfl tln))))))))) (olk rfl (by exact bC) (olk rfl (by exact bN) (olk rfl (by exact obOkS0) (olk rfl (by exact obOkS rfl) oln)))) (hU (a := [(0, .cell r)]) rfl)) ?_
      rintro n_ s ⟨j, evs2, w2, hj, hw2, he2, rfl⟩
      all_goals refine aS (aR ?_)
      all_goals refine oC (oLt rfl rfl rfl) ?_
      all_goals refine oN ?_
      refine aS (aC rfl (fun h2 => ?_) (fun h2 => ?_))
      · have hj2 : j < 2 := by have := of_decide_eq_true h2; omega
        have hx : es[j]? = some (es[j]'(by omega)) := List.getElem?_eq_getElem (by omega)
        generalize hee : es[j]'(by omega) = e at hx
        refine aW ?_
        refine aS (aB ?_)
        all_goals refine aS (aR ?_)
        all_goals refine oC (op_ix sl45 rfl rfl rfl (by omega) hx) ?_
        all_goals refine oC (oDR ty77 rfl rfl) ?_
        all_goals refine oC (oX (o := 7) z77 rfl rfl) ?_
        all_goals refine oC (op_st ty77 rfl rfl (Conv.of rfl) rfl) ?_
        all_goals refine oN ?_
        all_goals refine aS (aR ?_)
        all_goals refine oC (op_mvl rfl rfl rfl rfl) ?_
        all_goals refine oC (oD ty77 rfl rfl rfl) ?_
        all_goals refine oC (op_bsl sl45 z77 (.cons rfl (Conv.of rfl) (.nil _)) rfl (by decide) rfl) ?_
        all_goals refine oC (op_app sl45 z77 ul45 rfl rfl rfl (by (simp; omega)) (by (simp; omega)) rfl rfl) ?_
        all_goals refine oC (op_asl rfl rfl rfl rfl) ?_
        all_goals refine oN ?_
        all_goals refine aR ?_
        all_goals refine oC (op_ldm ty26_WrldS rfl rfl rfl) ?_
        all_goals refine oC (oD ty77 rfl rfl rfl) ?_
        all_goals refine oC (oLM (s := 49) (pre := []) fb63 (.nil _) rfl (.cons rfl (Conv.of rfl) (.nil _)) (l21Do_ct w2 _ hw2) (olsk rfl ols0) (kK (by exact bN) k0) (kK (by exact bN) k0) rfl argO0 (argOk' rfl rfl argO0) (inOne rfl) (inOne rfl) rfl) ?_
        all_goals refine oC (op_stm ty26_WrldS rfl rfl rfl) ?_
        all_goals refine oN ?_
        all_goals refine aR ?_
        all_goals refine oC (oP rfl rfl rfl (by omega)) ?_
        all_goals refine oC (oM rfl (Conv.of rfl) rfl) ?_
        all_goals refine oN ?_
        repeat first | refine nS ?_ | refine nB ?_
        exact ⟨n_ - 1, _, by omega, ⟨j + 1, evs2 ++ [e], doF w2 e, by omega, doF_ok _ hw2, by simp; omega, rfl⟩, Le.mk rfl (tlb rfl rfl rfl (tlb rfl rfl rfl (tle rfl (rfl) rfl (tlb rfl rfl rfl (tle rfl (rfl) rfl (tle rfl (rfl) rfl (tle rfl (by rfl) rfl (tle rfl (rfl) rfl (tle rfl (rfl) rfl tln))))))))) (olk rfl (by exact bC) (olk rfl (by exact bN) (olk rfl (by exact obOkS0) (olk rfl (by exact obOkS rfl) oln)))) (hU (a := [(0, .cell r)]) rfl)⟩
      · refine aE ?_
        repeat refine ex_seq ?_
        refine eB ?_
        exact nS ⟨(evs2, w2), ⟨hw2, by simp only; omega⟩, Le.mk rfl (tlb rfl rfl rfl (tlb rfl rfl rfl (tle rfl (rfl) rfl (tlb rfl rfl rfl (tle rfl (rfl) rfl (tle rfl (rfl) rfl tln)))))) (olk rfl (by exact bC) (olk rfl (by exact bN) (olk rfl (by exact obOkS0) (olk rfl (by exact obOkS rfl) oln)))) (hU (a := [(0, .cell r)]) rfl)⟩
    rintro ⟨evs3, w3⟩ ⟨hw3, he3⟩
    simp only at hw3 he3 ⊢
    refine awp_seq_ex (ι := List Evt × Wrld) (fun i => mkSt 120 [(0, .box 0 (IsLens.whole Rd)), (4, .box 5 (IsLens.whole WrldS)), (5, .v bad), (6, .box 6 (IsLens.whole WrldS)), (8, .v (OList.mk i.1 true)), (9, .v (n0 - (k : Int)))] [(0, .cell r2), (1, .arr (Wrld.nodes i.2 |>.map sN)), (5, .cell WrldS.zero), (6, .cell (sW i.2))]) (fun i => FineX i.2 ∧ i.1.length ≤ 10 * k + 6) ?_ ?_
    · all_goals refine aS (aR ?_)
      all_goals refine oC (oA rfl (Conv.of rfl) rfl) ?_
      all_goals refine oN ?_
      refine aB ?_
      refine awp_loop' (fun n_ s => ∃ (j : Nat), ∃ (evs4 : List Evt), ∃ (w4 : Wrld), ∃ (hj : n_ + j = 4), ∃ (hw4 : FineX w4), ∃ (he4 : evs4.length ≤ 10 * k + 2 + j), s = mkSt 120 [(0, .box 0 (IsLens.whole Rd)), (4, .box 5 (IsLens.whole WrldS)), (5, .v bad), (6, .box 6 (IsLens.whole WrldS)), (8, .v (OList.mk evs4 true)), (9, .v (n0 - (k : Int))), (12, .v ((j : Int) + 1))] [(0, .cell r2), (1, .arr (Wrld.nodes w4 |>.map sN)), (5, .cell WrldS.zero), (6, .cell (sW w4))]) (4) ⟨0, evs3, w3, by omega, hw3, by omega, rfl⟩ (Le.mk rfl (tlb rfl rfl rfl (tlb rfl rfl rfl (tle rfl (rfl) rfl (tlb rfl rfl rfl (tle rfl (rfl) rfl (tle rfl (rfl) rfl (tle rfl (by rfl) rfl tln))))))) (olk rfl (by exact bC) (olk rfl (by exact bN) (olk rfl (by exact obOkS0) (olk rfl (by exact obOkS rfl) oln)))) (hU (a := [(0, .cell r)]) rfl)) ?_
      rintro n_ s ⟨j, evs4, w4, hj, hw4, he4, rfl⟩
      have hll := hw4.ll
      all_goals refine aS (aS (aR ?_))
      all_goals refine oC (oM rfl (Conv.of rfl) rfl) ?_
      all_goals refine oC (op_leq rfl rfl rfl) ?_
      all_goals refine oC (oM rfl (Conv.of rfl) rfl) ?_
      all_goals refine g_split (t := 55) rfl (fun h => ?_) (fun h => ?_)
      all_goals first | refine oC (gF rfl rfl rfl rfl rfl) ?_ | refine oC (gN rfl rfl rfl (oF f26_2_WrldS rfl rfl)) ?_
      all_goals first | refine oC (gF rfl rfl rfl rfl rfl) ?_ | refine oC (gN rfl rfl rfl (op_ldl ty24_OListVote rfl rfl rfl)) ?_
      all_goals first | refine oC (gF rfl rfl rfl rfl rfl) ?_ | refine oC (gN rfl rfl rfl (oE sl24 rfl rfl)) ?_
      all_goals first | refine oC (gF rfl rfl rfl rfl rfl) ?_ | refine oC (gN rfl rfl rfl (op_gtr rfl rfl rfl)) ?_
      all_goals refine oC (oQ rfl rfl rfl rfl) ?_
      all_goals refine oN ?_
      · refine aC rfl (fun h2 => ?_) (fun h2 => ?_)
        · have hj4 : j < 4 := by have := of_decide_eq_true h; omega
          refine aW ?_
          refine aS (aB ?_)
          all_goals refine aS (aR ?_)
          all_goals refine oC (oF f26_2_WrldS rfl rfl) ?_
          all_goals refine oC (op_ldl ty24_OListVote rfl rfl rfl) ?_
          all_goals refine oC (oE sl24 rfl rfl) ?_
          all_goals refine oC (op_sub rfl rfl rfl (by (simp only [sW]; omega))) ?_
          all_goals refine oC (oM rfl (Conv.of rfl) rfl) ?_
          all_goals refine oC (op_build (.cons f77_0 rfl (Conv.of rfl) (.cons f77_1 rfl (Conv.of rfl) (.cons f77_2 rfl (Conv.of rfl) (.nil _)))) z77 rfl pl77 rfl) ?_
          all_goals refine oC (oX (o := 8) z77 rfl rfl) ?_
          all_goals refine oC (op_st ty77 rfl rfl (Conv.of rfl) rfl) ?_
          all_goals refine oN ?_
          all_goals refine aS (aR ?_)
          all_goals refine oC (op_mvl rfl rfl rfl rfl) ?_
          all_goals refine oC (oD ty77 rfl rfl rfl) ?_
          all_goals refine oC (op_bsl sl45 z77 (.cons rfl (Conv.of rfl) (.nil _)) rfl (by decide) rfl) ?_
          all_goals refine oC (op_app sl45 z77 ul45 rfl rfl rfl (by (simp; omega)) (by (simp; omega)) rfl rfl) ?_
          all_goals refine oC (op_asl rfl rfl rfl rfl) ?_
          all_goals refine oN ?_
          all_goals refine aR ?_
          all_goals refine oC (op_ldm ty26_WrldS rfl rfl rfl) ?_
          all_goals refine oC (oD ty77 rfl rfl rfl) ?_
          all_goals refine oC (oLM (s := 73) (pre := []) fb63 (.nil _) rfl (.cons rfl (Conv.of rfl) (.nil _)) (l21Do_ct w4 _ hw4) (olsk rfl ols0) (kK (by exact bN) k0) (kK (by exact bN) k0) rfl argO0 (argOk' rfl rfl argO0) (inOne rfl) (inOne rfl) rfl) ?_
          all_goals refine oC (op_stm ty26_WrldS rfl rfl rfl) ?_
          all_goals refine oN ?_
          all_goals refine aR ?_
          all_goals refine oC (oM rfl (Conv.of rfl) rfl) ?_
          all_goals refine oC (oP rfl rfl rfl (by omega)) ?_
          all_goals refine oC (oA rfl (Conv.of rfl) rfl) ?_
          all_goals refine oN ?_
          repeat first | refine nS ?_ | refine nB ?_
          exact ⟨n_ - 1, _, by omega, ⟨j + 1, _, _, by omega, doF_ok _ hw4, by simp; omega, rfl⟩, Le.mk rfl (tlb rfl rfl rfl (tlb rfl rfl rfl (tle rfl (rfl) rfl (tlb rfl rfl rfl (tle rfl (rfl) rfl (tle rfl (rfl) rfl (tle rfl (by rfl) rfl tln))))))) (olk rfl (by exact bC) (olk rfl (by exact bN) (olk rfl (by exact obOkS0) (olk rfl (by exact obOkS rfl) oln)))) (hU (a := [(0, .cell r)]) rfl)⟩
        · refine aE ?_
          repeat refine ex_seq ?_
          refine eB ?_
          exact nS ⟨(evs4, w4), ⟨hw4, by simp only; omega⟩, Le.mk rfl (tlb rfl rfl rfl (tlb rfl rfl rfl (tle rfl (rfl) rfl (tlb rfl rfl rfl (tle rfl (rfl) rfl (tle rfl (rfl) rfl tln)))))) (olk rfl (by exact bC) (olk rfl (by exact bN) (olk rfl (by exact obOkS0) (olk rfl (by exact obOkS rfl) oln)))) (hU (a := [(0, .cell r)]) rfl)⟩
      · refine aC rfl (fun h2 => absurd h2 (by decide)) (fun h2 => ?_)
        refine aE ?_
        repeat refine ex_seq ?_
        refine eB ?_
        exact nS ⟨(evs4, w4), ⟨hw4, by simp only; omega⟩, Le.mk rfl (tlb rfl rfl rfl (tlb rfl rfl rfl (tle rfl (rfl) rfl (tlb rfl rfl rfl (tle rfl (rfl) rfl (tle rfl (rfl) rfl tln)))))) (olk rfl (by exact bC) (olk rfl (by exact bN) (olk rfl (by exact obOkS0) (olk rfl (by exact obOkS rfl) oln)))) (hU (a := [(0, .cell r)]) rfl)⟩
    rintro ⟨evs5, w5⟩ ⟨hw5, he5⟩
    simp only at hw5 he5 ⊢
    refine awp_toB_ex (ι := List Evt × Wrld) (fun i => mkSt 120 [(0, .box 0 (IsLens.whole Rd)), (4, .box 5 (IsLens.whole WrldS)), (5, .v bad), (6, .box 6 (IsLens.whole WrldS)), (8, .v (OList.mk i.1 true)), (9, .v (n0 - (k : Int)))] [(0, .cell r2), (1, .arr (Wrld.nodes i.2 |>.map sN)), (5, .cell WrldS.zero), (6, .cell (sW i.2))]) (fun i => FineX i.2 ∧ i.1.length ≤ 10 * k + 10) ?_ ?_
    · all_goals refine aS (aR ?_)
      all_goals refine oC (oA rfl (Conv.of rfl) rfl) ?_
      all_goals refine oN ?_
      refine aB ?_
      refine awp_loop' (fun n_ s => ∃ (j : Nat), ∃ (evs6 : List Evt), ∃ (w6 : Wrld), ∃ (hj : n_ + j = 4), ∃ (hw6 : FineX w6), ∃ (he6 : evs6.length ≤ 10 * k + 6 + j), s = mkSt 120 [(0, .box 0 (IsLens.whole Rd)), (4, .box 5 (IsLens.whole WrldS)), (5, .v bad), (6, .box 6 (IsLens.whole WrldS)), (8, .v (OList.mk evs6 true)), (9, .v (n0 - (k : Int))), (14, .v ((j : Int) + 1))] [(0, .cell r2), (1, .arr (Wrld.nodes w6 |>.map sN)), (5, .cell WrldS.zero), (6, .cell (sW w6))]) (4) ⟨0, evs5, w5, by omega, hw5, by omega, rfl⟩ (Le.mk rfl (tlb rfl rfl rfl (tlb rfl rfl rfl (tle rfl (rfl) rfl (tlb rfl rfl rfl (tle rfl (rfl) rfl (tle rfl (rfl) rfl (tle rfl (by rfl) rfl tln))))))) (olk rfl (by exact bC) (olk rfl (by exact bN) (olk rfl (by exact obOkS0) (olk rfl (by exact obOkS rfl) oln)))) (hU (a := [(0, .cell r)]) rfl)) ?_
      rintro n_ s ⟨j, evs6, w6, hj, hw6, he6, rfl⟩
      have hll := hw6.ll
      all_goals refine aS (aS (aR ?_))
      all_goals refine oC (oM rfl (Conv.of rfl) rfl) ?_
      all_goals refine oC (op_leq rfl rfl rfl) ?_
      all_goals refine oC (oM rfl (Conv.of rfl) rfl) ?_
      all_goals refine g_split (t := 78) rfl (fun h => ?_) (fun h => ?_)
      all_goals first | refine oC (gF rfl rfl rfl rfl rfl) ?_ | refine oC (gN rfl rfl rfl (oF f26_2_WrldS rfl rfl)) ?_
      all_goals first | refine oC (gF rfl rfl rfl rfl rfl) ?_ | refine oC (gN rfl rfl rfl (op_ldl ty24_OListVote rfl rfl rfl)) ?_
      all_goals first | refine oC (gF rfl rfl rfl rfl rfl) ?_ | refine oC (gN rfl rfl rfl (oE sl24 rfl rfl)) ?_
      all_goals first | refine oC (gF rfl rfl rfl rfl rfl) ?_ | refine oC (gN rfl rfl rfl (op_gtr rfl rfl rfl)) ?_
      all_goals refine oC (oQ rfl rfl rfl rfl) ?_
      all_goals refine oN ?_
      · refine aC rfl (fun h2 => ?_) (fun h2 => ?_)
        · have hj4 : j < 4 := by have := of_decide_eq_true h; omega
          refine aW ?_
          refine aS (aB ?_)
          all_goals refine aS (aR ?_)
          all_goals refine oC (oF f26_2_WrldS rfl rfl) ?_
          all_goals refine oC (op_ldl ty24_OListVote rfl rfl rfl) ?_
          all_goals refine oC (oE sl24 rfl rfl) ?_
          all_goals refine oC (op_sub rfl rfl rfl (by (simp only [sW]; omega))) ?_
          all_goals refine oC (oM rfl (Conv.of rfl) rfl) ?_
          all_goals refine oC (op_build (.cons f77_0 rfl (Conv.of rfl) (.cons f77_1 rfl (Conv.of rfl) (.cons f77_2 rfl (Conv.of rfl) (.nil _)))) z77 rfl pl77 rfl) ?_
          all_goals refine oC (oX (o := 9) z77 rfl rfl) ?_
          all_goals refine oC (op_st ty77 rfl rfl (Conv.of rfl) rfl) ?_
          all_goals refine oN ?_
          all_goals refine aS (aR ?_)
          all_goals refine oC (op_mvl rfl rfl rfl rfl) ?_
          all_goals refine oC (oD ty77 rfl rfl rfl) ?_
          all_goals refine oC (op_bsl sl45 z77 (.cons rfl (Conv.of rfl) (.nil _)) rfl (by decide) rfl) ?_
          all_goals refine oC (op_app sl45 z77 ul45 rfl rfl rfl (by (simp; omega)) (by (simp; omega)) rfl rfl) ?_
          all_goals refine oC (op_asl rfl rfl rfl rfl) ?_
          all_goals refine oN ?_
          all_goals refine aR ?_
          all_goals refine oC (op_ldm ty26_WrldS rfl rfl rfl) ?_
          all_goals refine oC (oD ty77 rfl rfl rfl) ?_
          all_goals refine oC (oLM (s := 96) (pre := []) fb63 (.nil _) rfl (.cons rfl (Conv.of rfl) (.nil _)) (l21Do_ct w6 _ hw6) (olsk rfl ols0) (kK (by exact bN) k0) (kK (by exact bN) k0) rfl argO0 (argOk' rfl rfl argO0) (inOne rfl) (inOne rfl) rfl) ?_
          all_goals refine oC (op_stm ty26_WrldS rfl rfl rfl) ?_
          all_goals refine oN ?_
          all_goals refine aR ?_
          all_goals refine oC (oM rfl (Conv.of rfl) rfl) ?_
          all_goals refine oC (oP rfl rfl rfl (by omega)) ?_
          all_goals refine oC (oA rfl (Conv.of rfl) rfl) ?_
          all_goals refine oN ?_
          repeat first | refine nS ?_ | refine nB ?_
          exact ⟨n_ - 1, _, by omega, ⟨j + 1, _, _, by omega, doF_ok _ hw6, by simp; omega, rfl⟩, Le.mk rfl (tlb rfl rfl rfl (tlb rfl rfl rfl (tle rfl (rfl) rfl (tlb rfl rfl rfl (tle rfl (rfl) rfl (tle rfl (rfl) rfl (tle rfl (by rfl) rfl tln))))))) (olk rfl (by exact bC) (olk rfl (by exact bN) (olk rfl (by exact obOkS0) (olk rfl (by exact obOkS rfl) oln)))) (hU (a := [(0, .cell r)]) rfl)⟩
        · refine aE ?_
          repeat refine ex_seq ?_
          refine eB ?_
          exact nB (nS ⟨(evs6, w6), ⟨hw6, by simp only; omega⟩, Le.mk rfl (tlb rfl rfl rfl (tlb rfl rfl rfl (tle rfl (rfl) rfl (tlb rfl rfl rfl (tle rfl (rfl) rfl (tle rfl (rfl) rfl tln)))))) (olk rfl (by exact bC) (olk rfl (by exact bN) (olk rfl (by exact obOkS0) (olk rfl (by exact obOkS rfl) oln)))) (hU (a := [(0, .cell r)]) rfl)⟩)
      · refine aC rfl (fun h2 => absurd h2 (by decide)) (fun h2 => ?_)
        refine aE ?_
        repeat refine ex_seq ?_
        refine eB ?_
        exact nB (nS ⟨(evs6, w6), ⟨hw6, by simp only; omega⟩, Le.mk rfl (tlb rfl rfl rfl (tlb rfl rfl rfl (tle rfl (rfl) rfl (tlb rfl rfl rfl (tle rfl (rfl) rfl (tle rfl (rfl) rfl tln)))))) (olk rfl (by exact bC) (olk rfl (by exact bN) (olk rfl (by exact obOkS0) (olk rfl (by exact obOkS rfl) oln)))) (hU (a := [(0, .cell r)]) rfl)⟩)
    rintro ⟨evs7, w7⟩ ⟨hw7, he7⟩
    simp only at hw7 he7 ⊢
    all_goals refine aR ?_
    all_goals refine oC (oM rfl (Conv.of rfl) rfl) ?_
    all_goals refine oC (op_sub rfl rfl rfl (by omega)) ?_
    all_goals refine oC (oA rfl (Conv.of rfl) rfl) ?_
    all_goals refine oN ?_
    repeat first | refine nS ?_ | refine nB ?_
    exact ⟨n_ - 1, _, by omega, ⟨k + 1, evs7, w7, r2, by omega, hw7, by omega, hf3.weak (by omega), rfl⟩, Le.mk rfl (tlb rfl rfl rfl (tlb rfl rfl rfl (tle rfl (rfl) rfl (tlb rfl rfl rfl (tle rfl (rfl) rfl (tle rfl (by (show AV.v _ = AV.v _; congr 1; omega)) rfl tln)))))) (olk rfl (by exact bC) (olk rfl (by exact bN) (olk rfl (by exact obOkS0) (olk rfl (by exact obOkS rfl) oln)))) (hU (a := [(0, .cell r)]) rfl)⟩
  · refine aE ?_
    repeat refine ex_seq ?_
    refine eB ?_
    have hff : Far 2000 r1 := hf.weak (by omega)
    clear hf hk h hq1 hq1' hq0 hq0' hf1 hf2 hp
    have he40 : evs.length ≤ 40 := by omega
    clear he hk4
    refine awp_seq_ex (ι := List Evt × Wrld × Rd) (fun i => mkSt 120 [(0, .box 0 (IsLens.whole Rd)), (4, .box 5 (IsLens.whole WrldS)), (5, .v bad), (6, .box 6 (IsLens.whole WrldS)), (8, .v (OList.mk i.1 true))] [(0, .cell i.2.2), (1, .arr (Wrld.nodes i.2.1 |>.map sN)), (5, .cell WrldS.zero), (6, .cell (sW i.2.1))]) (fun i => FineX i.2.1 ∧ i.1.length ≤ 100 ∧ Far 20000 i.2.2) ?_ ?_
    · refine aB ?_
      refine awp_loop' (fun n_ s => ∃ (evs2 : List Evt), ∃ (w2 : Wrld), ∃ (r2 : Rd), ∃ (hj : n_ + evs2.length = 200), ∃ (hw2 : FineX w2), ∃ (he2 : evs2.length ≤ 100), ∃ (hf2 : Far (2000 + 130 * (evs2.length : Int)) r2), s = mkSt 120 [(0, .box 0 (IsLens.whole Rd)), (4, .box 5 (IsLens.whole WrldS)), (5, .v bad), (6, .box 6 (IsLens.whole WrldS)), (8, .v (OList.mk evs2 true))] [(0, .cell r2), (1, .arr (Wrld.nodes w2 |>.map sN)), (5, .cell WrldS.zero), (6, .cell (sW w2))]) (200 - evs.length) ⟨evs, w, r1, by omega, hw, by omega, hff.weak (by omega), rfl⟩ (Le.mk rfl (tlb rfl rfl rfl (tlb rfl rfl rfl (tle rfl (rfl) rfl (tlb rfl rfl rfl (tle rfl (rfl) rfl tln))))) (olk rfl (by exact bC) (olk rfl (by exact bN) (olk rfl (by exact obOkS0) (olk rfl (by exact obOkS rfl) oln)))) (hU (a := [(0, .cell r)]) rfl)) ?_
      rintro n_ s ⟨evs2, w2, r2, hj, hw2, he2, hf2, rfl⟩
      have hf3 : Far (2001 + 130 * (evs2.length : Int)) (nx r2 1) := hf2.nx (by omega) (by omega)
      all_goals refine aS (aS (aR ?_))
      all_goals refine oC (oM rfl Conv.ol rfl) ?_
      all_goals refine oC (oE sl45 rfl rfl) ?_
      all_goals refine oC (oLt rfl rfl rfl) ?_
      all_goals refine oC (oM rfl (Conv.of rfl) rfl) ?_
      all_goals refine g_split (t := 102) rfl (fun h => ?_) (fun h => ?_)
      all_goals first | refine oC (gF rfl rfl rfl rfl rfl) ?_ | refine oC (gN rfl rfl rfl (oM rfl (Conv.of rfl) rfl)) ?_
      all_goals first | refine oC (gF rfl rfl rfl rfl rfl) ?_ | refine oC (gN rfl rfl rfl (oLO fb40 (.cons rfl (Conv.of rfl) (.cons rfl (Conv.of rfl) (.nil _))) (pick_ct r2 40 (by unfold Far at hf2; omega)) (olsk rfl ols0) (kK (by exact bC) k0) (kK (by exact bC) k0) rfl (argOb rfl rfl rfl (argOk' rfl rfl argO0)) (fun o ho => by cases ho) rfl)) ?_
      all_goals first | refine oC (gF rfl rfl rfl rfl rfl) ?_ | refine oC (gN rfl rfl rfl (op_gtr rfl rfl rfl)) ?_
      all_goals refine oC (oQ rfl rfl rfl rfl) ?_
      all_goals refine oN ?_
      · have h69 : evs2.length < 69 := by have := of_decide_eq_true h; omega
        refine aC rfl (fun h2 => ?_) (fun h2 => ?_)
        · refine aW ?_
          refine aB ?_
          all_goals refine aS (aR ?_)
          all_goals refine oC (oM rfl (Conv.of rfl) rfl) ?_
          all_goals refine oC (op_ldd ty26_WrldS rfl rfl rfl) ?_
          refine awpOps_callE (ι := Evt × Rd) (ro (nx r2 1) w2) (fun i => .v i.1) (fun i => ro i.2 w2) (fun i => (nx r2 1).p ≤ i.2.p ∧ i.2.p ≤ (nx r2 1).p + 120) rfl fb141 (.cons rfl (Conv.of rfl) (.cons rfl (Conv.of rfl) (.nil _))) (l72Event_ct (nx r2 1) w2 hw2 (hf3.weak (by omega))) (fun r h' ⟨v, r', e1, e2, e3, e4⟩ => ⟨(v, r'), e1, e2, e3, e4⟩) (olsk rfl (olsk rfl ols0)) (kK bC (kK bN k0)) (argOb rfl rfl rfl (argOb rfl rfl rfl argO0)) rfl (fun i => rfl) (fun i => kK bC (kK bN k0)) (fun i o ho => by cases ho) ?_
          rintro ⟨e, r3⟩ ⟨q1, q2⟩
          simp only at q1 q2 ⊢
          have hf4 : Far (2130 + 130 * (evs2.length : Int)) r3 := by unfold Far at hf3 ⊢; omega
          all_goals refine oC (oX (o := 10) z77 rfl rfl) ?_
          all_goals refine oC (op_st ty77 rfl rfl (Conv.of rfl) rfl) ?_
          all_goals refine oN ?_
          all_goals refine aS (aR ?_)
          all_goals refine oC (op_mvl rfl rfl rfl rfl) ?_
          all_goals refine oC (oD ty77 rfl rfl rfl) ?_
          all_goals refine oC (op_bsl sl45 z77 (.cons rfl (Conv.of rfl) (.nil _)) rfl (by decide) rfl) ?_
          all_goals refine oC (op_app sl45 z77 ul45 rfl rfl rfl (by (simp; omega)) (by (simp; omega)) rfl rfl) ?_
          all_goals refine oC (op_asl rfl rfl rfl rfl) ?_
          all_goals refine oN ?_
          all_goals refine aR ?_
          all_goals refine oC (op_ldm ty26_WrldS rfl rfl rfl) ?_
          all_goals refine oC (oD ty77 rfl rfl rfl) ?_
          all_goals refine oC (oLM (s := 114) (pre := []) fb63 (.nil _) rfl (.cons rfl (Conv.of rfl) (.nil _)) (l21Do_ct w2 _ hw2) (olsk rfl ols0) (kK (by exact bN) k0) (kK (by exact bN) k0) rfl argO0 (argOk' rfl rfl argO0) (inOne rfl) (inOne rfl) rfl) ?_
          all_goals refine oC (op_stm ty26_WrldS rfl rfl rfl) ?_
          all_goals refine oN ?_
          repeat first | refine nS ?_ | refine nB ?_
          exact ⟨n_ - 1, _, by omega, ⟨evs2 ++ [e], doF w2 e, r3, by simp; omega, doF_ok _ hw2, by simp; omega, hf4.weak (by simp; omega), rfl⟩, Le.mk rfl (tlb rfl rfl rfl (tlb rfl rfl rfl (tle rfl (rfl) rfl (tlb rfl rfl rfl (tle rfl (rfl) rfl tln))))) (olk rfl (by exact bC) (olk rfl (by exact bN) (olk rfl (by exact obOkS0) (olk rfl (by exact obOkS rfl) oln)))) (hU (a := [(0, .cell r)]) rfl)⟩
        · refine aE ?_
          repeat refine ex_seq ?_
          refine eB ?_
          exact nS ⟨(evs2, w2, nx r2 1), ⟨hw2, by simp only; omega, by simp only; exact Far.weak hf3 (by omega)⟩, Le.mk rfl (tlb rfl rfl rfl (tlb rfl rfl rfl (tle rfl (rfl) rfl (tlb rfl rfl rfl (tle rfl (rfl) rfl tln))))) (olk rfl (by exact bC) (olk rfl (by exact bN) (olk rfl (by exact obOkS0) (olk rfl (by exact obOkS rfl) oln)))) (hU (a := [(0, .cell r)]) rfl)⟩
      · refine aC rfl (fun h2 => absurd h2 (by decide)) (fun h2 => ?_)
        refine aE ?_
        repeat refine ex_seq ?_
        refine eB ?_
        exact nS ⟨(evs2, w2, r2), ⟨hw2, by simp only; omega, by simp only; exact Far.weak hf2 (by omega)⟩, Le.mk rfl (tlb rfl rfl rfl (tlb rfl rfl rfl (tle rfl (rfl) rfl (tlb rfl rfl rfl (tle rfl (rfl) rfl tln))))) (olk rfl (by exact bC) (olk rfl (by exact bN) (olk rfl (by exact obOkS0) (olk rfl (by exact obOkS rfl) oln)))) (hU (a := [(0, .cell r)]) rfl)⟩
    · rintro ⟨evs3, w3, r3⟩ ⟨hw3, he3, hf3⟩
      simp only at hw3 he3 hf3 ⊢
      all_goals refine aS (dS ?_)
      all_goals refine dC (oM rfl (Conv.of rfl) rfl) ?_
      all_goals refine dC (op_mvl rfl rfl rfl rfl) ?_
      all_goals refine dC (op_ldm ty26_WrldS rfl rfl rfl) ?_
      all_goals refine dC (oA rfl (Conv.of rfl) rfl) ?_
      all_goals refine dC (op_asl rfl rfl rfl rfl) ?_
      all_goals refine dC (op_stm ty26_WrldS rfl rfl rfl) ?_
      all_goals refine dr_nil mixed rfl ?_
      refine aT ?_
      repeat first | refine rS ?_ | refine rB ?_
      exact ⟨_, _, rNM (ol := ro r3 w3) (.keep (.v rfl (Conv.of rfl)) (.tmp rfl (.cell ty26_WrldS rfl rfl (.nil _)))) rfl (inOne rfl) (olk rfl bC (olk rfl bN oln)) (hU rfl), bad, evs3, w3, r3, rfl, rfl, he3, hb, hw3, hf3⟩
end Go.Proofs.YtmhmeppocbcmeaaGreat

/- The reference: a drawn play. -/
set_option linter.unusedVariables false
set_option linter.unusedSimpArgs false
namespace Go.Proofs.YtmhmeppocbcmeaaGreat
open Go Go.Wt
end Go.Proofs.YtmhmeppocbcmeaaGreat

/- What further draws give. -/
set_option linter.unusedVariables false
set_option linter.unusedSimpArgs false
namespace Go.Wt
def gi (l : List Int) (i : Int) : Int := l.getD i.toNat 0
theorem gi_get {l : List Int} {i : Int} (h0 : 0 ≤ i) (h : i < l.length) : l[i.toNat]? = some (gi l i) := by
  unfold gi
  rw [List.getD_eq_getElem?_getD, List.getElem?_eq_getElem (by omega)]; rfl
def anyPayF (r : Rd) : Pay × Rd :=
  if pk (nx r 3) 12 = 0 then ({ payV r with to := (payV r).frm }, nx r 4) else
  if pk (nx r 3) 12 = 1 then ({ payV r with sum := gi [0, 10] (pk (nx r 4) 2) }, nx r 5) else
  if pk (nx r 3) 12 = 2 then ({ payV r with frm := gi [0, 4] (pk (nx r 4) 2) }, nx r 5) else (payV r, nx r 4)
theorem anyPay_p (r : Rd) : r.p + 4 ≤ (anyPayF r).2.p ∧ (anyPayF r).2.p ≤ r.p + 5 := by
  unfold anyPayF
  repeat' split
  all_goals simp only [nx]
  all_goals omega
/-- A chain, seldom spoilt. -/
def offAt (c : List Itm) (r : Rd) : List Itm × Rd :=
  if pk r 16 = 0 then (c ++ [⟨pk (nx r 1) 4, (anyPayF (nx r 2)).1⟩], (anyPayF (nx r 2)).2) else
  if pk r 16 = 1 then (if 0 < c.length then (c.set (pk (nx r 1) c.length).toNat { c.getD (pk (nx r 1) c.length).toNat Itm.zero with epoch := gi [0, 30, 31] (pk (nx r 2) 3) }, nx r 3) else (c, nx r 1)) else
  if pk r 16 = 2 then (if 0 < c.length then (c.set (pk (nx r 1) c.length).toNat { c.getD (pk (nx r 1) c.length).toNat Itm.zero with pay := (anyPayF (nx r 2)).1 }, (anyPayF (nx r 2)).2) else (c, nx r 1)) else (c, nx r 1)
def offF (r : Rd) : List Itm × Rd := offAt (chainV r) (chainR r)
theorem offAt_p (c : List Itm) (r : Rd) : r.p ≤ (offAt c r).2.p ∧ (offAt c r).2.p ≤ r.p + 8 ∧ (offAt c r).1.length ≤ c.length + 1 := by
  have := anyPay_p (nx r 2)
  have e : (nx r 2).p = r.p + 2 := rfl
  unfold offAt
  repeat' split
  all_goals simp only [nx, List.length_append, List.length_set, List.length_cons, List.length_nil] at *
  all_goals omega
theorem off_far {m m' : Int} {r : Rd} (h : Far m r) (hm : m ≤ 900000) (hm' : m + 40 ≤ m') : Far m' (offF r).2 := by
  have h1 := chainR_far h (by omega)
  have := offAt_p (chainV r) (chainR r)
  unfold offF
  unfold Far at *
  omega
theorem off_len {m : Int} {r : Rd} (h : Far m r) (hm : m ≤ 900000) : (offF r).1.length ≤ 7 := by
  have h1 := chainV_len h (by omega)
  have := offAt_p (chainV r) (chainR r)
  unfold offF
  omega
theorem chainR_ge {m : Int} {r : Rd} (h : Far m r) (hm : m ≤ 1000000) : r.p ≤ (chainR r).p := by
  have := pk_bd h hm 7
  rw [chainR_eq]; simp only [nx]; omega
theorem off_ge {m : Int} {r : Rd} (h : Far m r) (hm : m ≤ 900000) : r.p ≤ (offF r).2.p := by
  have h1 := chainR_ge h (by omega)
  have := offAt_p (chainV r) (chainR r)
  unfold offF
  omega
/-- A vote's chain, if nothing is drawn. -/
def voteC (c : List Itm) (r : Rd) : List Itm × Rd :=
  if c.length = 0 then (if 0 < pk r 4 then ([⟨1 + pk (nx r 1) 3, payV (nx r 2)⟩], nx r 5) else (c, nx r 1)) else (c, r)
def voteB (b : Int) (r : Rd) : Int × Rd := if pk r 16 = 0 then (gi [0, 5] (pk (nx r 1) 2), nx r 2) else (b, nx r 1)
def voteDF (r : Rd) : Vote × Rd :=
  (⟨(voteB (1 + pk r 4) (voteC (offF (nx r 1)).1 (offF (nx r 1)).2).2).1, (voteC (offF (nx r 1)).1 (offF (nx r 1)).2).1⟩, (voteB (1 + pk r 4) (voteC (offF (nx r 1)).1 (offF (nx r 1)).2).2).2)
theorem voteC_p (c : List Itm) (r : Rd) : r.p ≤ (voteC c r).2.p ∧ (voteC c r).2.p ≤ r.p + 5 ∧ (voteC c r).1.length ≤ c.length + 1 := by
  unfold voteC
  repeat' split
  all_goals simp only [nx, List.length_cons, List.length_nil]
  all_goals omega
theorem voteB_p (b : Int) (r : Rd) : r.p ≤ (voteB b r).2.p ∧ (voteB b r).2.p ≤ r.p + 2 := by
  unfold voteB
  split <;> simp only [nx] <;> omega
theorem voteD_p {m : Int} {r : Rd} (h : Far m r) (hm : m ≤ 800000) : r.p ≤ (voteDF r).2.p ∧ (voteDF r).2.p ≤ m + 60 ∧ (voteDF r).1.chain.length ≤ 8 := by
  have h1 : Far (m + 1) (nx r 1) := h.nx (by omega) (by omega)
  have h2 := off_far h1 (by omega) (Int.le_refl _)
  have h2' := off_ge h1 (by omega)
  have h3 := off_len h1 (by omega)
  have h4 := voteC_p (offF (nx r 1)).1 (offF (nx r 1)).2
  have h5 := voteB_p (1 + pk r 4) (voteC (offF (nx r 1)).1 (offF (nx r 1)).2).2
  have e : (nx r 1).p = r.p + 1 := rfl
  unfold voteDF
  unfold Far at h2
  simp only
  omega
theorem voteD_far {m m' : Int} {r : Rd} (h : Far m r) (hm : m ≤ 800000) (hm' : m + 60 ≤ m') : Far m' (voteDF r).2 := by
  have := voteD_p h hm
  unfold Far at *
  omega
instance (n : Nod) : Grow Vote (.v (sN n).seen) n.seen := inferInstanceAs (Grow Vote (.v (OList.mk n.seen true)) n.seen)
instance (w : Wrld) : Grow Vote (.v (sW w).log) w.log := inferInstanceAs (Grow Vote (.v (OList.mk w.log true)) w.log)
/-- A world of a drawn one's size. -/
structure Lw (w : Wrld) : Prop where
  ep : -100 ≤ w.epoch ∧ w.epoch ≤ 100
  four : w.nodes.length = 4
  ll : w.log.length ≤ 100
  lc : ∀ v ∈ w.log, v.chain.length ≤ 30
  sl : ∀ n ∈ w.nodes, n.seen.length ≤ 100 ∧ ∀ v ∈ n.seen, v.chain.length ≤ 30
theorem FineX.lw {w : Wrld} (h : FineX w) : Lw w :=
  ⟨by have := h.fine.ep; omega, h.four, by have := h.fine.ll; omega, fun v hv => by have := chainOk_len (voteOk_chain (h.fine.log.ok v hv)); omega, fun n hn =>
    ⟨by have := h.fine.sl n hn; omega, fun v hv => by have := chainOk_len (voteOk_chain ((h.fine.seen n hn).ok v hv)); omega⟩⟩
end Go.Wt

/- The reference: further draws. -/
set_option linter.unusedVariables false
set_option linter.unusedSimpArgs false
namespace Go.Proofs.YtmhmeppocbcmeaaGreat
open Go Go.Wt
set_option maxHeartbeats 1000000 in
theorem anyPay_ct (r : Rd) (hp : Far 800000 r) : CtO Tryz.prog 148 [.box 0 (IsLens.whole Rd)] [(0, .cell r)] (.v (anyPayF r).1) [(0, .cell (anyPayF r).2)] := by
  have hp3 : Far 800003 (nx r 3) := hp.nx (by omega) (by omega)
  have hp4 : Far 800004 (nx (nx r 3) 1) := hp3.nx (by omega) (by omega)
  have e4 : nx (nx r 3) 1 = nx r 4 := nx_nx r 3 1
  have e5 : nx (nx (nx r 3) 1) 1 = nx r 5 := by rw [e4]; exact nx_nx r 4 1
  have b2 := pk_bd hp4 (by omega) 2
  have c2 := b2.2 (by omega)
  have g1 := gi_get (l := [0, 10]) b2.1 (by simp; omega)
  have g2 := gi_get (l := [0, 4]) b2.1 (by simp; omega)
  refine Ct.intro Tryz.func148 rfl rfl ?_
  refine aS (aR ?_)
  refine oC (oX (o := 2) z75 rfl rfl) ?_
  refine oN ?_
  refine aS (aR ?_)
  refine oC (oM rfl (Conv.of rfl) rfl) ?_
  refine oC (oLO fb39 (.cons rfl (Conv.of rfl) (.nil _)) (l71Pay_ct r (hp.weak (by omega))) (olsk rfl ols0) (kK (by exact bC) k0) (kK (by exact bC) k0) rfl (argOb rfl rfl rfl argO0) (fun o ho => by cases ho) rfl) ?_
  refine oC (oX (o := 3) z75 rfl rfl) ?_
  refine oC (op_st ty75 rfl rfl (Conv.of rfl) rfl) ?_
  refine oN ?_
  refine aS (aS (aR ?_))
  refine oC (oM rfl (Conv.of rfl) rfl) ?_
  refine oC (oLO fb40 (.cons rfl (Conv.of rfl) (.cons rfl (Conv.of rfl) (.nil _))) (pick_ct (nx r 3) 12 (by unfold Far at hp3; omega)) (olsk rfl ols0) (kK (by exact bC) k0) (kK (by exact bC) k0) rfl (argOb rfl rfl rfl (argOk' rfl rfl argO0)) (fun o ho => by cases ho) rfl) ?_
  refine oN ?_
  refine awp_to (s' := mkSt 30 [(2, .box 2 (IsLens.whole Pay)), (3, .box 3 (IsLens.whole Pay))] [(0, .cell (anyPayF r).2), (2, .cell Pay.zero), (3, .cell (anyPayF r).1)]) ?_ ?_
  · refine aB ?_
    refine aS (aR ?_)
    refine oC (op_eql rfl rfl rfl) ?_
    refine oC (oA rfl (Conv.of rfl) rfl) ?_
    refine oN ?_
    refine aC rfl (fun h => ?_) (fun h => ?_)
    · have hk := of_decide_eq_true h
      rw [show anyPayF r = ({ payV r with to := (payV r).frm }, nx (nx r 3) 1) by unfold anyPayF; rw [if_pos hk, e4]]
      refine aR ?_
      refine oC (oF f75_0 rfl rfl) ?_
      refine oC (oD ty3 rfl rfl rfl) ?_
      refine oC (oF f75_1 rfl rfl) ?_
      refine oC (op_st ty3 rfl rfl (Conv.of rfl) rfl) ?_
      refine oN ?_
      repeat first | refine nS ?_ | refine nB ?_
      all_goals exact Le.mk rfl (tlb rfl rfl rfl (tlb rfl rfl rfl tln)) (olk rfl (by exact bC) (olk rfl (by exact bC) (olk rfl (by exact bC) oln))) (hU (a := [(0, .cell r)]) rfl)
    · have hk := of_decide_eq_false h
      refine aS (aR ?_)
      refine oC (op_eql rfl rfl rfl) ?_
      refine oC (oA rfl (Conv.of rfl) rfl) ?_
      refine oN ?_
      refine aC rfl (fun h2 => ?_) (fun h2 => ?_)
      · have hk2 := of_decide_eq_true h2
        rw [show anyPayF r = ({ payV r with sum := gi [0, 10] (pk (nx (nx r 3) 1) 2) }, nx (nx (nx r 3) 1) 1) by unfold anyPayF; rw [if_neg hk, if_pos hk2, e5, e4]]
        refine aR ?_
        refine oC (op_bsl sl93 z3 (.cons rfl (Conv.of rfl) (.cons rfl (Conv.of rfl) (.nil _))) rfl (by decide) rfl) ?_
        refine oC (oM rfl (Conv.of rfl) rfl) ?_
        refine oC (oLO fb40 (.cons rfl (Conv.of rfl) (.cons rfl (Conv.of rfl) (.nil _))) (pick_ct (nx (nx r 3) 1) 2 (by unfold Far at hp4; omega)) (olsk rfl ols0) (kK (by exact bC) k0) (kK (by exact bC) k0) rfl (argOb rfl rfl rfl (argOk' rfl rfl argO0)) (fun o ho => by cases ho) rfl) ?_
        refine oC (op_ix sl93 rfl rfl rfl b2.1 g1) ?_
        refine oC (oDR ty3 rfl rfl) ?_
        refine oC (oF f75_2 rfl rfl) ?_
        refine oC (op_st ty3 rfl rfl (Conv.of rfl) rfl) ?_
        refine oN ?_
        repeat first | refine nS ?_ | refine nB ?_
        all_goals exact Le.mk rfl (tlb rfl rfl rfl (tlb rfl rfl rfl tln)) (olk rfl (by exact bC) (olk rfl (by exact bC) (olk rfl (by exact bC) oln))) (hU (a := [(0, .cell r)]) rfl)
      · have hk2 := of_decide_eq_false h2
        refine aS (aR ?_)
        refine oC (op_eql rfl rfl rfl) ?_
        refine oC (oA rfl (Conv.of rfl) rfl) ?_
        refine oN ?_
        refine aC rfl (fun h3 => ?_) (fun h3 => ?_)
        · have hk3 := of_decide_eq_true h3
          rw [show anyPayF r = ({ payV r with frm := gi [0, 4] (pk (nx (nx r 3) 1) 2) }, nx (nx (nx r 3) 1) 1) by unfold anyPayF; rw [if_neg hk, if_neg hk2, if_pos hk3, e5, e4]]
          refine aR ?_
          refine oC (op_bsl sl93 z3 (.cons rfl (Conv.of rfl) (.cons rfl (Conv.of rfl) (.nil _))) rfl (by decide) rfl) ?_
          refine oC (oM rfl (Conv.of rfl) rfl) ?_
          refine oC (oLO fb40 (.cons rfl (Conv.of rfl) (.cons rfl (Conv.of rfl) (.nil _))) (pick_ct (nx (nx r 3) 1) 2 (by unfold Far at hp4; omega)) (olsk rfl ols0) (kK (by exact bC) k0) (kK (by exact bC) k0) rfl (argOb rfl rfl rfl (argOk' rfl rfl argO0)) (fun o ho => by cases ho) rfl) ?_
          refine oC (op_ix sl93 rfl rfl rfl b2.1 g2) ?_
          refine oC (oDR ty3 rfl rfl) ?_
          refine oC (oF f75_0 rfl rfl) ?_
          refine oC (op_st ty3 rfl rfl (Conv.of rfl) rfl) ?_
          refine oN ?_
          repeat first | refine nS ?_ | refine nB ?_
          all_goals exact Le.mk rfl (tlb rfl rfl rfl (tlb rfl rfl rfl tln)) (olk rfl (by exact bC) (olk rfl (by exact bC) (olk rfl (by exact bC) oln))) (hU (a := [(0, .cell r)]) rfl)
        · have hk3 := of_decide_eq_false h3
          rw [show anyPayF r = (payV r, nx (nx r 3) 1) by unfold anyPayF; rw [if_neg hk, if_neg hk2, if_neg hk3, e4]]
          refine aW ?_
          repeat first | refine nS ?_ | refine nB ?_
          all_goals exact Le.mk rfl (tlb rfl rfl rfl (tlb rfl rfl rfl tln)) (olk rfl (by exact bC) (olk rfl (by exact bC) (olk rfl (by exact bC) oln))) (hU (a := [(0, .cell r)]) rfl)
  · refine aS (aR ?_)
    refine oC (oD ty75 rfl rfl rfl) ?_
    refine oC (op_st ty75 rfl rfl (Conv.of rfl) rfl) ?_
    refine oN ?_
    refine aT ?_
    repeat first | refine rS ?_ | refine rB ?_
    exact finO1 [(0, .cell (anyPayF r).2)] (.rc ty75 rfl rfl) (fun o ho => by cases ho) (olk rfl bC oln) (hK rfl) rfl
set_option maxHeartbeats 1000000 in
theorem chainA_ct (r : Rd) (hp : Far 800000 r) : CtO Tryz.prog 145 [.box 0 (IsLens.whole Rd)] [(0, .cell r)] (.v (NRef.ref 2)) [(0, .cell (chainR r)), (2, .arr (chainV r))] := by
  have b0 := pk_bd hp (by omega) 7
  have c0 := b0.2 (by omega)
  refine Ct.intro Tryz.func145 rfl rfl ?_
  refine aS (aR ?_)
  refine oC (oA rfl (Conv.of rfl) rfl) ?_
  refine oN ?_
  refine aS (aR ?_)
  refine oC (op_bsa (o := 2) sl27 z143 (.nil _) rfl (by decide) rfl rfl) ?_
  refine oC (oA rfl (Conv.nr) rfl) ?_
  refine oN ?_
  refine aS (aR ?_)
  refine oC (oA rfl (Conv.of rfl) rfl) ?_
  refine oN ?_
  refine aS (aS (aR ?_))
  refine oC (oM rfl (Conv.of rfl) rfl) ?_
  refine oC (oLO fb40 (.cons rfl (Conv.of rfl) (.cons rfl (Conv.of rfl) (.nil _))) (pick_ct r 7 (by unfold Far at hp; omega)) (olsk rfl ols0) (kK (by exact bC) k0) (kK (by exact bC) k0) rfl (argOb rfl rfl rfl (argOk' rfl rfl argO0)) (fun o ho => by cases ho) rfl) ?_
  refine oC (oA rfl (Conv.of rfl) rfl) ?_
  refine oN ?_
  refine aB ?_
  refine awp_loop' (fun n_ s => ∃ (k : Nat), ∃ (hk : n_ + k = (pk r 7).toNat), s = mkSt 30 [(3, .v (NRef.ref 2)), (0, .box 0 (IsLens.whole Rd)), (4, .v (chIter r k).1), (5, .v (pk r 7 - (k : Int)))] [(2, .arr (chIter r k).2.1), (0, .cell (chIter r k).2.2)]) ((pk r 7).toNat) ⟨0, by omega, rfl⟩ (Le.mk rfl (tlb rfl rfl rfl (tlb rfl rfl rfl (tle rfl (rfl) rfl (tle rfl (by (show AV.v _ = AV.v _; congr 1; omega)) rfl tln)))) (olk rfl (by exact bA) (olk rfl (by exact bC) oln)) (hU (a := [(0, .cell r)]) rfl)) ?_
  rintro n_ s ⟨k, hk, rfl⟩
  have hk6 : k ≤ 6 := by omega
  have hat := chIter_at hp (by omega) k (by omega)
  have hf0 : Far 800500 (chIter r k).2.2 := by rw [chIter_r]; exact hp.nx (by omega) (by omega)
  have hln := chIter_len r k
  refine aS (aS (aR ?_))
  refine oC (oM rfl (Conv.of rfl) rfl) ?_
  refine oC (op_gtr rfl rfl rfl) ?_
  refine oN ?_
  refine aC rfl (fun h => ?_) (fun h => ?_)
  · have hlt : (k : Int) < pk r 7 := by have := of_decide_eq_true h; omega
    have hst : chIter r (k + 1) = chStep (chIter r k) := rfl
    generalize hs : chIter r k = s at hat hf0 hln hst
    have hf1 : Far 800501 (nx s.2.2 1) := hf0.nx (by omega) (by omega)
    have hf2 : Far 800502 (nx (nx s.2.2 1) 1) := hf1.nx (by omega) (by omega)
    have d0 := pk_bd hf0 (by omega) 6
    have d1 := pk_bd hf1 (by omega) 3
    have e0 := d0.2 (by omega)
    have e1 := d1.2 (by omega)
    have hq : IntKind.i64.wrap ((pk s.2.2 6).tdiv 5) = 0 ∨ IntKind.i64.wrap ((pk s.2.2 6).tdiv 5) = 1 := by
      have : (pk s.2.2 6).tdiv 5 = 0 ∨ (pk s.2.2 6).tdiv 5 = 1 := by
        rw [Int.tdiv_eq_ediv_of_nonneg d0.1]; omega
      rw [wrap_in (by omega)]; exact this
    have hm : 0 ≤ IntKind.i64.wrap ((pk s.2.2 6).tdiv 5) * pk (nx s.2.2 1) 3 ∧ IntKind.i64.wrap ((pk s.2.2 6).tdiv 5) * pk (nx s.2.2 1) 3 ≤ 2 := by
      rcases hq with hq | hq <;> rw [hq] <;> omega
    refine aW ?_
    refine aS (aB ?_)
    refine aS (aR ?_)
    refine oC (oM rfl (Conv.of rfl) rfl) ?_
    refine oC (oP rfl rfl rfl (by omega)) ?_
    refine oC (oM rfl (Conv.of rfl) rfl) ?_
    refine oC (oLO fb40 (.cons rfl (Conv.of rfl) (.cons rfl (Conv.of rfl) (.nil _))) (pick_ct s.2.2 6 (by unfold Far at hf0; omega)) (olsk rfl ols0) (kK (by exact bC) k0) (kK (by exact bC) k0) rfl (argOb rfl rfl rfl (argOk' rfl rfl argO0)) (fun o ho => by cases ho) rfl) ?_
    refine oC (op_quo rfl rfl rfl (by decide)) ?_
    refine oC (oM rfl (Conv.of rfl) rfl) ?_
    refine oC (oLO fb40 (.cons rfl (Conv.of rfl) (.cons rfl (Conv.of rfl) (.nil _))) (pick_ct (nx s.2.2 1) 3 (by unfold Far at hf1; omega)) (olsk rfl ols0) (kK (by exact bC) k0) (kK (by exact bC) k0) rfl (argOb rfl rfl rfl (argOk' rfl rfl argO0)) (fun o ho => by cases ho) rfl) ?_
    refine oC (op_mul rfl rfl rfl (by omega)) ?_
    refine oC (oP rfl rfl rfl (by omega)) ?_
    refine oC (oA rfl (Conv.of rfl) rfl) ?_
    refine oN ?_
    refine awp_toB (s' := mkSt 30 [(3, .v (NRef.ref 3)), (0, .box 0 (IsLens.whole Rd)), (4, .v (chIter r (k + 1)).1), (5, .v (pk r 7 - (k : Int)))] [(3, .arr (chIter r (k + 1)).2.1), (0, .cell (chIter r (k + 1)).2.2)]) ?_ ?_
    · refine aR ?_
      refine oC (oM rfl (Conv.of rfl) rfl) ?_
      refine oC (oM rfl (Conv.of rfl) rfl) ?_
      refine oC (oM rfl (Conv.of rfl) rfl) ?_
      refine oC (oLO fb39 (.cons rfl (Conv.of rfl) (.nil _)) (l71Pay_ct (nx (nx s.2.2 1) 1) (hf2.weak (by omega))) (olsk rfl ols0) (kK (by exact bC) k0) (kK (by exact bC) k0) rfl (argOb rfl rfl rfl argO0) (fun o ho => by cases ho) rfl) ?_
      refine oC (op_build (.cons f143_0 rfl (Conv.of rfl) (.cons f143_1 rfl (Conv.of rfl) (.nil _))) z143 rfl pl143 rfl) ?_
      refine oC (op_bsl sl27 z143 (.cons rfl (Conv.of rfl) (.nil _)) rfl (by decide) rfl) ?_
      refine oC (op_apA (o' := 3) sl27 z143 ul27 rfl rfl rfl rfl (by simp) (by (simp; omega)) (by (simp; omega)) rfl) ?_
      refine oC (oA rfl (Conv.of rfl) rfl) ?_
      refine oN ?_
      all_goals exact Le.mk rfl (tlb rfl rfl rfl (tlb rfl rfl rfl (tle rfl (by (rw [hst]; rfl)) rfl (tle rfl (rfl) rfl tln)))) (olk (by (rw [hst]; simp only [chStep, nx_nx]; rfl)) (by exact bA) (olk (by (rw [hst]; simp only [chStep, nx_nx]; rfl)) (by exact bC) oln)) (hU (a := [(0, .cell r)]) rfl)
    refine awp_le (Le.ren (o := 3) (o' := 2) (t := 3) rfl (hU rfl) rfl rfl rfl (oblk bC obl0) (fun x _ => Plain.refs_eq x)) ?_
    refine aR ?_
    refine oC (oM rfl (Conv.of rfl) rfl) ?_
    refine oC (op_sub rfl rfl rfl (by omega)) ?_
    refine oC (oA rfl (Conv.of rfl) rfl) ?_
    refine oN ?_
    repeat first | refine nS ?_ | refine nB ?_
    exact ⟨n_ - 1, _, by omega, ⟨k + 1, by omega, rfl⟩, Le.mk rfl (tlb rfl rfl rfl (tlb rfl rfl rfl (tle rfl (rfl) rfl (tle rfl (by (show AV.v _ = AV.v _; congr 1; omega)) rfl tln)))) (olk rfl (by exact bA) (olk rfl (by exact bC) oln)) (hU (a := [(0, .cell r)]) rfl)⟩
  · refine aE ?_
    repeat refine ex_seq ?_
    refine eB ?_
    have hge : pk r 7 - (k : Int) ≤ 0 := by have := of_decide_eq_false h; omega
    have hk' : k = (pk r 7).toNat := by omega
    refine aS (aR ?_)
    refine oC (oM rfl (Conv.of rfl) rfl) ?_
    refine oC (oA rfl (Conv.of rfl) rfl) ?_
    refine oN ?_
    refine aT ?_
    repeat first | refine rS ?_ | refine rB ?_
    subst hk'
    exact finO1 [(0, .cell (chainR r)), (2, .arr (chainV r))] (.v rfl (Conv.of rfl)) (fun o ho => (by have h2 : o = 2 := (by simpa using (show o ∈ [2] from ho)); (subst h2; rfl))) (olk rfl bC (olk rfl bA oln)) (hU rfl) rfl
set_option maxHeartbeats 4000000 in
theorem off_ct (r : Rd) (hp : Far 700000 r) : CtO Tryz.prog 97 [.box 0 (IsLens.whole Rd)] [(0, .cell r)] (.v (offF r).1) [(0, .cell (offF r).2)] := by
  have hc6 := chainV_len hp (by omega)
  have hf1 := chainR_far hp (by omega)
  have hch := chainA_ct r (hp.weak (by omega))
  unfold offF
  generalize chainV r = c at hc6 hch ⊢
  generalize chainR r = r1 at hf1 hch ⊢
  have hf2 : Far 700032 (nx r1 1) := hf1.nx (by omega) (by omega)
  have hf3 : Far 700033 (nx (nx r1 1) 1) := hf2.nx (by omega) (by omega)
  have e2 : nx (nx r1 1) 1 = nx r1 2 := nx_nx r1 1 1
  have e3 : nx (nx (nx r1 1) 1) 1 = nx r1 3 := by rw [e2]; exact nx_nx r1 2 1
  have b3 := pk_bd hf3 (by omega) 3
  have c3 := b3.2 (by omega)
  have g3 := gi_get (l := [0, 30, 31]) b3.1 (by simp; omega)
  have bc := pk_bd hf2 (by omega) (c.length : Int)
  have hx : 0 < c.length → c[(pk (nx r1 1) (c.length : Int)).toNat]? = some (c.getD (pk (nx r1 1) (c.length : Int)).toNat Itm.zero) := fun h0 => by
    have := bc.2 (by omega)
    rw [List.getD_eq_getElem?_getD, List.getElem?_eq_getElem (show (pk (nx r1 1) (c.length : Int)).toNat < c.length by omega)]; rfl
  refine Ct.intro Tryz.func97 rfl rfl ?_
  refine aS (aR ?_)
  refine oC (oA rfl (Conv.of rfl) rfl) ?_
  refine oN ?_
  refine aS (aR ?_)
  refine oC (oM rfl (Conv.of rfl) rfl) ?_
  refine awpOps_callO [(0, .cell r)] rfl fb145 (.cons rfl (Conv.of rfl) (.nil _)) hch (olsk rfl ols0) (kK bC k0) (argOb rfl rfl rfl argO0) rfl ?_
  rintro r_ h' ⟨rfl, rfl⟩
  refine ⟨[(0, .cell r1), (2, .arr c)], rfl, fun o ho => ?_, fun o ho h1 => ?_, kK bC (kK bA k0), fun o ho => ?_, ?_⟩
  · have : o = 0 := by simpa [keys, lk0] using ho
    subst this; rfl
  · by_cases e0 : o = 0
    · subst e0; cases h1
    · have : o = 2 := by simpa [keys, lk0, e0] using ho
      subst this; rfl
  · have : o = 2 := by simpa using (show o ∈ [2] from ho)
    subst this; rfl
  refine oC (oA rfl (Conv.of rfl) rfl) ?_
  refine oN ?_
  refine aS (aS (aR ?_))
  refine oC (oM rfl (Conv.of rfl) rfl) ?_
  refine oC (oLO fb40 (.cons rfl (Conv.of rfl) (.cons rfl (Conv.of rfl) (.nil _))) (pick_ct r1 16 (by unfold Far at hf1; omega)) (olsk rfl ols0) (kK (by exact bC) k0) (kK (by exact bC) k0) rfl (argOb rfl rfl rfl (argOk' rfl rfl argO0)) (fun o ho => by cases ho) rfl) ?_
  refine oN ?_
  refine awp_to (s' := mkSt 50 [(3, .v (offAt c r1).1), (0, .box 0 (IsLens.whole Rd))] [(0, .cell (offAt c r1).2)]) ?_ ?_
  · refine aB ?_
    refine aS (aR ?_)
    refine oC (op_eql rfl rfl rfl) ?_
    refine oC (oA rfl (Conv.of rfl) rfl) ?_
    refine oN ?_
    refine aC rfl (fun h => ?_) (fun h => ?_)
    · have hk := of_decide_eq_true h
      rw [show offAt c r1 = (c ++ [⟨pk (nx r1 1) 4, (anyPayF (nx (nx r1 1) 1)).1⟩], (anyPayF (nx (nx r1 1) 1)).2) by unfold offAt; rw [if_pos hk, e2]]
      refine aR ?_
      refine oC (oM rfl (Conv.of rfl) rfl) ?_
      refine oC (oM rfl (Conv.of rfl) rfl) ?_
      refine oC (oLO fb40 (.cons rfl (Conv.of rfl) (.cons rfl (Conv.of rfl) (.nil _))) (pick_ct (nx r1 1) 4 (by unfold Far at hf2; omega)) (olsk rfl ols0) (kK (by exact bC) k0) (kK (by exact bC) k0) rfl (argOb rfl rfl rfl (argOk' rfl rfl argO0)) (fun o ho => by cases ho) rfl) ?_
      refine oC (oM rfl (Conv.of rfl) rfl) ?_
      refine oC (oLO fb148 (.cons rfl (Conv.of rfl) (.nil _)) (anyPay_ct (nx (nx r1 1) 1) (hf3.weak (by omega))) (olsk rfl ols0) (kK (by exact bC) k0) (kK (by exact bC) k0) rfl (argOb rfl rfl rfl argO0) (fun o ho => by cases ho) rfl) ?_
      refine oC (op_build (.cons f143_0 rfl (Conv.of rfl) (.cons f143_1 rfl (Conv.of rfl) (.nil _))) z143 rfl pl143 rfl) ?_
      refine oC (op_bsl sl27 z143 (.cons rfl (Conv.of rfl) (.nil _)) rfl (by decide) rfl) ?_
      refine oC (op_apA (o' := 3) sl27 z143 ul27 rfl rfl rfl rfl (by simp) (by (simp; omega)) (by (simp; omega)) rfl) ?_
      refine oC (oA rfl (Conv.of rfl) rfl) ?_
      refine oN ?_
      repeat first | refine nS ?_ | refine nB ?_
      exact Le.trans (Le.mk rfl (tlb rfl rfl rfl (tlb rfl rfl rfl tln)) (olk rfl (by exact bA) (olk rfl (by exact bC) oln)) (hU (a := [(0, .cell r)]) rfl)) (Le.frz (o := 3) (t := 3) (by show _ ≤ 4611686018427387904; simp; omega) (hU rfl) rfl rfl (oblk bC obl0))
    · have hk := of_decide_eq_false h
      refine aS (aR ?_)
      refine oC (op_eql rfl rfl rfl) ?_
      refine oC (oA rfl (Conv.of rfl) rfl) ?_
      refine oN ?_
      refine aC rfl (fun h2 => ?_) (fun h2 => ?_)
      · have hk2 := of_decide_eq_true h2
        refine aS (aR ?_)
        refine oC (oM rfl (Conv.of rfl) rfl) ?_
        refine oC (oEA sl27 rfl rfl rfl) ?_
        refine oC (op_gtr rfl rfl rfl) ?_
        refine oN ?_
        refine aC rfl (fun h3 => ?_) (fun h3 => ?_)
        · have hpos : 0 < c.length := by have := of_decide_eq_true h3; omega
          have hlt := bc.2 (by omega)
          rw [show offAt c r1 = (c.set (pk (nx r1 1) c.length).toNat { c.getD (pk (nx r1 1) c.length).toNat Itm.zero with epoch := gi [0, 30, 31] (pk (nx (nx r1 1) 1) 3) }, nx (nx (nx r1 1) 1) 1) by unfold offAt; rw [if_neg hk, if_pos hk2, if_pos hpos, e3, e2]]
          refine aR ?_
          refine oC (oM rfl (Conv.of rfl) rfl) ?_
          refine oC (oM rfl (Conv.of rfl) rfl) ?_
          refine oC (oM rfl (Conv.of rfl) rfl) ?_
          refine oC (oEA sl27 rfl rfl rfl) ?_
          refine oC (oLO fb40 (.cons rfl (Conv.of rfl) (.cons rfl (Conv.of rfl) (.nil _))) (pick_ct (nx r1 1) (c.length : Int) (by unfold Far at hf2; omega)) (olsk rfl ols0) (kK (by exact bC) k0) (kK (by exact bC) k0) rfl (argOb rfl rfl rfl (argOk' rfl rfl argO0)) (fun o ho => by cases ho) rfl) ?_
          refine oC (op_bsl sl93 z3 (.cons rfl (Conv.of rfl) (.cons rfl (Conv.of rfl) (.cons rfl (Conv.of rfl) (.nil _)))) rfl (by decide) rfl) ?_
          refine oC (oM rfl (Conv.of rfl) rfl) ?_
          refine oC (oLO fb40 (.cons rfl (Conv.of rfl) (.cons rfl (Conv.of rfl) (.nil _))) (pick_ct (nx (nx r1 1) 1) 3 (by unfold Far at hf3; omega)) (olsk rfl ols0) (kK (by exact bC) k0) (kK (by exact bC) k0) rfl (argOb rfl rfl rfl (argOk' rfl rfl argO0)) (fun o ho => by cases ho) rfl) ?_
          refine oC (op_ix sl93 rfl rfl rfl b3.1 g3) ?_
          refine oC (oDR ty3 rfl rfl) ?_
          refine oC (op_ixA sl27 rfl rfl rfl rfl ⟨bc.1, by omega⟩) ?_
          refine oC (oFE f143_0 rfl rfl) ?_
          refine oC (op_ste ty3 rfl rfl (Conv.of rfl) rfl (hx hpos)) ?_
          refine oN ?_
          repeat first | refine nS ?_ | refine nB ?_
          exact Le.trans (Le.mk rfl (tlb rfl rfl rfl (tlb rfl rfl rfl tln)) (olk rfl (by exact bA) (olk rfl (by exact bC) oln)) (hU (a := [(0, .cell r)]) rfl)) (Le.frz (o := 2) (t := 3) (by show _ ≤ 4611686018427387904; simp; omega) (hU rfl) rfl rfl (oblk bC obl0))
        · have hpos : ¬ 0 < c.length := by have := of_decide_eq_false h3; omega
          rw [show offAt c r1 = (c, nx r1 1) by unfold offAt; rw [if_neg hk, if_pos hk2, if_neg hpos]]
          refine aW ?_
          repeat first | refine nS ?_ | refine nB ?_
          exact Le.trans (Le.mk rfl (tlb rfl rfl rfl (tlb rfl rfl rfl tln)) (olk rfl (by exact bA) (olk rfl (by exact bC) oln)) (hU (a := [(0, .cell r)]) rfl)) (Le.frz (o := 2) (t := 3) (by show _ ≤ 4611686018427387904; omega) (hU rfl) rfl rfl (oblk bC obl0))
      · have hk2 := of_decide_eq_false h2
        refine aS (aR ?_)
        refine oC (op_eql rfl rfl rfl) ?_
        refine oC (oA rfl (Conv.of rfl) rfl) ?_
        refine oN ?_
        refine aC rfl (fun h3 => ?_) (fun h3 => ?_)
        · have hk3 := of_decide_eq_true h3
          refine aS (aR ?_)
          refine oC (oM rfl (Conv.of rfl) rfl) ?_
          refine oC (oEA sl27 rfl rfl rfl) ?_
          refine oC (op_gtr rfl rfl rfl) ?_
          refine oN ?_
          refine aC rfl (fun h4 => ?_) (fun h4 => ?_)
          · have hpos : 0 < c.length := by have := of_decide_eq_true h4; omega
            have hlt := bc.2 (by omega)
            rw [show offAt c r1 = (c.set (pk (nx r1 1) c.length).toNat { c.getD (pk (nx r1 1) c.length).toNat Itm.zero with pay := (anyPayF (nx (nx r1 1) 1)).1 }, (anyPayF (nx (nx r1 1) 1)).2) by unfold offAt; rw [if_neg hk, if_neg hk2, if_pos hk3, if_pos hpos, e2]]
            refine aR ?_
            refine oC (oM rfl (Conv.of rfl) rfl) ?_
            refine oC (oM rfl (Conv.of rfl) rfl) ?_
            refine oC (oM rfl (Conv.of rfl) rfl) ?_
            refine oC (oEA sl27 rfl rfl rfl) ?_
            refine oC (oLO fb40 (.cons rfl (Conv.of rfl) (.cons rfl (Conv.of rfl) (.nil _))) (pick_ct (nx r1 1) (c.length : Int) (by unfold Far at hf2; omega)) (olsk rfl ols0) (kK (by exact bC) k0) (kK (by exact bC) k0) rfl (argOb rfl rfl rfl (argOk' rfl rfl argO0)) (fun o ho => by cases ho) rfl) ?_
            refine oC (oM rfl (Conv.of rfl) rfl) ?_
            refine oC (oLO fb148 (.cons rfl (Conv.of rfl) (.nil _)) (anyPay_ct (nx (nx r1 1) 1) (hf3.weak (by omega))) (olsk rfl ols0) (kK (by exact bC) k0) (kK (by exact bC) k0) rfl (argOb rfl rfl rfl argO0) (fun o ho => by cases ho) rfl) ?_
            refine oC (op_ixA sl27 rfl rfl rfl rfl ⟨bc.1, by omega⟩) ?_
            refine oC (oFE f143_1 rfl rfl) ?_
            refine oC (op_ste ty75 rfl rfl (Conv.of rfl) rfl (hx hpos)) ?_
            refine oN ?_
            repeat first | refine nS ?_ | refine nB ?_
            exact Le.trans (Le.mk rfl (tlb rfl rfl rfl (tlb rfl rfl rfl tln)) (olk rfl (by exact bA) (olk rfl (by exact bC) oln)) (hU (a := [(0, .cell r)]) rfl)) (Le.frz (o := 2) (t := 3) (by show _ ≤ 4611686018427387904; simp; omega) (hU rfl) rfl rfl (oblk bC obl0))
          · have hpos : ¬ 0 < c.length := by have := of_decide_eq_false h4; omega
            rw [show offAt c r1 = (c, nx r1 1) by unfold offAt; rw [if_neg hk, if_neg hk2, if_pos hk3, if_neg hpos]]
            refine aW ?_
            repeat first | refine nS ?_ | refine nB ?_
            exact Le.trans (Le.mk rfl (tlb rfl rfl rfl (tlb rfl rfl rfl tln)) (olk rfl (by exact bA) (olk rfl (by exact bC) oln)) (hU (a := [(0, .cell r)]) rfl)) (Le.frz (o := 2) (t := 3) (by show _ ≤ 4611686018427387904; omega) (hU rfl) rfl rfl (oblk bC obl0))
        · have hk3 := of_decide_eq_false h3
          rw [show offAt c r1 = (c, nx r1 1) by unfold offAt; rw [if_neg hk, if_neg hk2, if_neg hk3]]
          refine aW ?_
          repeat first | refine nS ?_ | refine nB ?_
          exact Le.trans (Le.mk rfl (tlb rfl rfl rfl (tlb rfl rfl rfl tln)) (olk rfl (by exact bA) (olk rfl (by exact bC) oln)) (hU (a := [(0, .cell r)]) rfl)) (Le.frz (o := 2) (t := 3) (by show _ ≤ 4611686018427387904; omega) (hU rfl) rfl rfl (oblk bC obl0))
  · refine aS (aR ?_)
    refine oC (oM rfl (Conv.of rfl) rfl) ?_
    refine oC (oA rfl (Conv.of rfl) rfl) ?_
    refine oN ?_
    refine aT ?_
    repeat first | refine rS ?_ | refine rB ?_
    exact finO1 [(0, .cell (offAt c r1).2)] (.v rfl (Conv.of rfl)) (fun o ho => by cases ho) (olk rfl bC oln) (hK rfl) rfl
set_option maxHeartbeats 4000000 in
theorem voteD_ct (r : Rd) (hp : Far 600000 r) : CtO Tryz.prog 91 [.box 0 (IsLens.whole Rd)] [(0, .cell r)] (.v (voteDF r).1) [(0, .cell (voteDF r).2)] := by
  have b4 := pk_bd hp (by omega) 4
  have c4 := b4.2 (by omega)
  have hf1 : Far 600001 (nx r 1) := hp.nx (by omega) (by omega)
  have hoc := off_ct (nx r 1) (hf1.weak (by omega))
  have hlen := off_len hf1 (by omega)
  have hf2 := off_far (m' := 600041) hf1 (by omega) (by omega)
  unfold voteDF
  generalize offF (nx r 1) = cr at hoc hlen hf2 ⊢
  obtain ⟨c, r2⟩ := cr
  simp only at hoc hlen hf2 ⊢
  have hcp := voteC_p c r2
  have hf3 : Far 600046 (voteC c r2).2 := by unfold Far at hf2 ⊢; omega
  refine Ct.intro Tryz.func91 rfl rfl ?_
  all_goals refine aS (aR ?_)
  all_goals refine oC (oX (o := 2) z38 rfl rfl) ?_
  all_goals refine oN ?_
  all_goals refine aS (aR ?_)
  all_goals refine oC (oM rfl (Conv.of rfl) rfl) ?_
  all_goals refine oC (oLO fb40 (.cons rfl (Conv.of rfl) (.cons rfl (Conv.of rfl) (.nil _))) (pick_ct r 4 (by unfold Far at hp; omega)) (olsk rfl ols0) (kK (by exact bC) k0) (kK (by exact bC) k0) rfl (argOb rfl rfl rfl (argOk' rfl rfl argO0)) (fun o ho => by cases ho) rfl) ?_
  all_goals refine oC (oP rfl rfl rfl (by omega)) ?_
  all_goals refine oC (oM rfl (Conv.of rfl) rfl) ?_
  all_goals refine oC (oLO fb97 (.cons rfl (Conv.of rfl) (.nil _)) (hoc) (olsk rfl ols0) (kK (by exact bC) k0) (kK (by exact bC) k0) rfl (argOb rfl rfl rfl argO0) (fun o ho => by cases ho) rfl) ?_
  all_goals refine oC (op_build (.cons f38_0 rfl (Conv.of rfl) (.cons f38_1 rfl (Conv.of rfl) (.nil _))) z38 rfl pl38 rfl) ?_
  all_goals refine oC (oX (o := 3) z38 rfl rfl) ?_
  all_goals refine oC (op_st ty38 rfl rfl (Conv.of rfl) rfl) ?_
  all_goals refine oN ?_
  refine aST (s' := mkSt 37 [(0, .box 0 (IsLens.whole Rd)), (2, .box 2 (IsLens.whole Vote)), (3, .box 3 (IsLens.whole Vote))] [(0, .cell (voteC c r2).2), (2, .cell Vote.zero), (3, .cell (Vote.mk (1 + pk r 4) (voteC c r2).1))]) ?_ ?_
  · have g2 : Far 600042 (nx r2 1) := hf2.nx (by omega) (by omega)
    have g3 : Far 600043 (nx (nx r2 1) 1) := g2.nx (by omega) (by omega)
    have d3 := pk_bd g2 (by omega) 3
    have f3 := d3.2 (by omega)
    have e2 : nx (nx r2 1) 1 = nx r2 2 := nx_nx r2 1 1
    have e5 : nx (nx (nx r2 1) 1) 3 = nx r2 5 := by rw [e2]; exact nx_nx r2 2 3
    all_goals refine aS (aR ?_)
    all_goals refine oC (oF f38_1 rfl rfl) ?_
    all_goals refine oC (oD ty27 rfl rfl rfl) ?_
    all_goals refine oC (oE sl27 rfl rfl) ?_
    all_goals refine oC (op_eql rfl rfl rfl) ?_
    all_goals refine oC (oM rfl (Conv.of rfl) rfl) ?_
    all_goals refine g_split (t := 14) rfl (fun h => ?_) (fun h => ?_)
    all_goals first | refine oC (gF rfl rfl rfl rfl rfl) ?_ | refine oC (gN rfl rfl rfl (oM rfl (Conv.of rfl) rfl)) ?_
    all_goals first | refine oC (gF rfl rfl rfl rfl rfl) ?_ | refine oC (gN rfl rfl rfl (oLO fb40 (.cons rfl (Conv.of rfl) (.cons rfl (Conv.of rfl) (.nil _))) (pick_ct r2 4 (by unfold Far at hf2; omega)) (olsk rfl ols0) (kK (by exact bC) k0) (kK (by exact bC) k0) rfl (argOb rfl rfl rfl (argOk' rfl rfl argO0)) (fun o ho => by cases ho) rfl)) ?_
    all_goals first | refine oC (gF rfl rfl rfl rfl rfl) ?_ | refine oC (gN rfl rfl rfl (op_gtr rfl rfl rfl)) ?_
    all_goals refine oC (oQ rfl rfl rfl rfl) ?_
    all_goals refine oN ?_
    · have hz : c.length = 0 := by have h' : ((c.length : Nat) : Int) = 0 := of_decide_eq_true h; omega
      refine aC rfl (fun h2 => ?_) (fun h2 => ?_)
      · have hk := of_decide_eq_true h2
        rw [show voteC c r2 = ([⟨1 + pk (nx r2 1) 3, payV (nx (nx r2 1) 1)⟩], nx (nx (nx r2 1) 1) 3) by unfold voteC; rw [if_pos hz, if_pos hk, e5, e2]]
        all_goals refine aR ?_
        all_goals refine oC (oM rfl (Conv.of rfl) rfl) ?_
        all_goals refine oC (oLO fb40 (.cons rfl (Conv.of rfl) (.cons rfl (Conv.of rfl) (.nil _))) (pick_ct (nx r2 1) 3 (by unfold Far at g2; omega)) (olsk rfl ols0) (kK (by exact bC) k0) (kK (by exact bC) k0) rfl (argOb rfl rfl rfl (argOk' rfl rfl argO0)) (fun o ho => by cases ho) rfl) ?_
        all_goals refine oC (oP rfl rfl rfl (by omega)) ?_
        all_goals refine oC (oM rfl (Conv.of rfl) rfl) ?_
        all_goals refine oC (oLO fb39 (.cons rfl (Conv.of rfl) (.nil _)) (l71Pay_ct (nx (nx r2 1) 1) (g3.weak (by omega))) (olsk rfl ols0) (kK (by exact bC) k0) (kK (by exact bC) k0) rfl (argOb rfl rfl rfl argO0) (fun o ho => by cases ho) rfl) ?_
        all_goals refine oC (op_build (.cons f143_0 rfl (Conv.of rfl) (.cons f143_1 rfl (Conv.of rfl) (.nil _))) z143 rfl pl143 rfl) ?_
        all_goals refine oC (op_bsl sl27 z143 (.cons rfl (Conv.of rfl) (.nil _)) rfl (by decide) rfl) ?_
        all_goals refine oC (oF f38_1 rfl rfl) ?_
        all_goals refine oC (op_st ty27 rfl rfl (Conv.ol) rfl) ?_
        all_goals refine oN ?_
        repeat first | refine nS ?_ | refine nB ?_
        exact Le.mk rfl (tlb rfl rfl rfl (tlb rfl rfl rfl (tlb rfl rfl rfl tln))) (olk rfl (by exact bC) (olk rfl (by exact bC) (olk rfl (by exact bC) oln))) (hU (a := [(0, .cell r)]) rfl)
      · have hk := of_decide_eq_false h2
        rw [show voteC c r2 = (c, nx r2 1) by unfold voteC; rw [if_pos hz, if_neg hk]]
        refine aW ?_
        repeat first | refine nS ?_ | refine nB ?_
        exact Le.mk rfl (tlb rfl rfl rfl (tlb rfl rfl rfl (tlb rfl rfl rfl tln))) (olk rfl (by exact bC) (olk rfl (by exact bC) (olk rfl (by exact bC) oln))) (hU (a := [(0, .cell r)]) rfl)
    · have hz : ¬ c.length = 0 := by have h' : ¬ ((c.length : Nat) : Int) = 0 := of_decide_eq_false h; omega
      rw [show voteC c r2 = (c, r2) by unfold voteC; rw [if_neg hz]]
      refine aC rfl (fun h2 => absurd h2 (by decide)) (fun h2 => ?_)
      refine aW ?_
      repeat first | refine nS ?_ | refine nB ?_
      exact Le.mk rfl (tlb rfl rfl rfl (tlb rfl rfl rfl (tlb rfl rfl rfl tln))) (olk rfl (by exact bC) (olk rfl (by exact bC) (olk rfl (by exact bC) oln))) (hU (a := [(0, .cell r)]) rfl)
  · generalize voteC c r2 = cr at hf3 ⊢
    obtain ⟨c2, r3⟩ := cr
    simp only at hf3 ⊢
    have hf4 : Far 600047 (nx r3 1) := hf3.nx (by omega) (by omega)
    have d2 := pk_bd hf4 (by omega) 2
    have f2 := d2.2 (by omega)
    have g2 := gi_get (l := [0, 5]) d2.1 (by simp; omega)
    have e2 : nx (nx r3 1) 1 = nx r3 2 := nx_nx r3 1 1
    refine aST (s' := mkSt 37 [(0, .box 0 (IsLens.whole Rd)), (2, .box 2 (IsLens.whole Vote)), (3, .box 3 (IsLens.whole Vote))] [(0, .cell (voteB (1 + pk r 4) r3).2), (2, .cell Vote.zero), (3, .cell (Vote.mk (voteB (1 + pk r 4) r3).1 c2))]) ?_ ?_
    · all_goals refine aS (aR ?_)
      all_goals refine oC (oM rfl (Conv.of rfl) rfl) ?_
      all_goals refine oC (oLO fb40 (.cons rfl (Conv.of rfl) (.cons rfl (Conv.of rfl) (.nil _))) (pick_ct r3 16 (by unfold Far at hf3; omega)) (olsk rfl ols0) (kK (by exact bC) k0) (kK (by exact bC) k0) rfl (argOb rfl rfl rfl (argOk' rfl rfl argO0)) (fun o ho => by cases ho) rfl) ?_
      all_goals refine oC (op_eql rfl rfl rfl) ?_
      all_goals refine oN ?_
      refine aC rfl (fun h2 => ?_) (fun h2 => ?_)
      · have hk := of_decide_eq_true h2
        rw [show voteB (1 + pk r 4) r3 = (gi [0, 5] (pk (nx r3 1) 2), nx (nx r3 1) 1) by unfold voteB; rw [if_pos hk, e2]]
        all_goals refine aR ?_
        all_goals refine oC (op_bsl sl93 z3 (.cons rfl (Conv.of rfl) (.cons rfl (Conv.of rfl) (.nil _))) rfl (by decide) rfl) ?_
        all_goals refine oC (oM rfl (Conv.of rfl) rfl) ?_
        all_goals refine oC (oLO fb40 (.cons rfl (Conv.of rfl) (.cons rfl (Conv.of rfl) (.nil _))) (pick_ct (nx r3 1) 2 (by unfold Far at hf4; omega)) (olsk rfl ols0) (kK (by exact bC) k0) (kK (by exact bC) k0) rfl (argOb rfl rfl rfl (argOk' rfl rfl argO0)) (fun o ho => by cases ho) rfl) ?_
        all_goals refine oC (op_ix sl93 rfl rfl rfl d2.1 g2) ?_
        all_goals refine oC (oDR ty3 rfl rfl) ?_
        all_goals refine oC (oF f38_0 rfl rfl) ?_
        all_goals refine oC (op_st ty3 rfl rfl (Conv.of rfl) rfl) ?_
        all_goals refine oN ?_
        repeat first | refine nS ?_ | refine nB ?_
        exact Le.mk rfl (tlb rfl rfl rfl (tlb rfl rfl rfl (tlb rfl rfl rfl tln))) (olk rfl (by exact bC) (olk rfl (by exact bC) (olk rfl (by exact bC) oln))) (hU (a := [(0, .cell r)]) rfl)
      · have hk := of_decide_eq_false h2
        rw [show voteB (1 + pk r 4) r3 = (1 + pk r 4, nx r3 1) by unfold voteB; rw [if_neg hk]]
        refine aW ?_
        repeat first | refine nS ?_ | refine nB ?_
        exact Le.mk rfl (tlb rfl rfl rfl (tlb rfl rfl rfl (tlb rfl rfl rfl tln))) (olk rfl (by exact bC) (olk rfl (by exact bC) (olk rfl (by exact bC) oln))) (hU (a := [(0, .cell r)]) rfl)
    · all_goals refine aS (aR ?_)
      all_goals refine oC (oD ty38 rfl rfl rfl) ?_
      all_goals refine oC (op_st ty38 rfl rfl (Conv.of rfl) rfl) ?_
      all_goals refine oN ?_
      refine aT ?_
      repeat first | refine rS ?_ | refine rB ?_
      exact finO1 [(0, .cell (voteB (1 + pk r 4) r3).2)] (.rc ty38 rfl rfl) (fun o ho => by cases ho) (olk rfl bC oln) (hK rfl) rfl
end Go.Proofs.YtmhmeppocbcmeaaGreat

/- The reference: draws of events in a plain world. -/
set_option linter.unusedVariables false
set_option linter.unusedSimpArgs false
namespace Go.Proofs.YtmhmeppocbcmeaaGreat
open Go Go.Wt
end Go.Proofs.YtmhmeppocbcmeaaGreat

/- The reference: drawn worlds, and what happens in them. -/
set_option linter.unusedVariables false
set_option linter.unusedSimpArgs false
namespace Go.Proofs.YtmhmeppocbcmeaaGreat
open Go Go.Wt
set_option maxHeartbeats 4000000 in
theorem l72World_ct (r : Rd) (hp : Far 1000 r) : Ct Tryz.prog 38 [.box 0 (IsLens.whole Rd)] (obs [(0, .cell r)]) (fun r1 h1 => ∃ (w : Wrld) (r' : Rd), r1 = .v w ∧ h1 = obs [(0, .cell r')] ∧ (w.nodes.length = 4 → Lw w) ∧ Far 21000 r') := by
  refine Ct.intro Tryz.func38 rfl rfl ?_
  first | refine aS (aR ?_) | refine aS (aS (aR ?_)) | refine aR ?_ | refine aS (aS (aS (aR ?_)))
  refine oC (oX (o := 5) z26 rfl rfl) ?_
  refine oN ?_
  first | refine aS (aR ?_) | refine aS (aS (aR ?_)) | refine aR ?_ | refine aS (aS (aS (aR ?_)))
  first | refine oC (oM rfl (Conv.of rfl) rfl) ?_ | refine oC (op_mvl rfl rfl rfl rfl) ?_ | refine oC (op_mvo rfl rfl rfl rfl) ?_
  refine awpOps_callO [(0, .cell r)] rfl fb90 (.cons rfl (Conv.of rfl) (.nil _)) (l72Play_ct r hp) (olsk rfl ols0) (kK bC k0) (argOb rfl rfl rfl argO0) rfl ?_
  rintro r_ h' ⟨bad, evs, w, r1, rfl, rfl, he, hb, hw, hf⟩
  refine ⟨ro r1 w, rfl, fun o ho => ?_, fun o ho h1 => ?_, kK bC (kK bN k0), fun o ho => ?_, ?_⟩
  · have : o = 0 := by simpa [keys, lk0] using ho
    subst this; rfl
  · by_cases e0 : o = 0
    · subst e0; cases h1
    · have : o = 1 := by simpa [keys, lk0, e0] using ho
      subst this; rfl
  · have : o = 1 := by simpa using (show o ∈ [1] from ho)
    subst this; rfl
  have hlw := hw.lw
  have h4 := hw.four
  have hll := hw.ll
  have hf1 : Far 20001 (nx r1 1) := hf.nx (by omega) (by omega)
  first | refine oC (oM rfl (Conv.of rfl) rfl) ?_ | refine oC (op_mvl rfl rfl rfl rfl) ?_ | refine oC (op_mvo rfl rfl rfl rfl) ?_
  refine oC (op_ext rfl rfl rfl) ?_
  refine oC (op_extm rfl rfl rfl rfl) ?_
  refine oC (op_extm rfl rfl rfl rfl) ?_
  refine oC (oX (o := 6) z26_WrldS rfl rfl) ?_
  first | refine oC (oA rfl (Conv.of rfl) rfl) ?_ | refine oC (op_asl rfl rfl rfl rfl) ?_ | refine oC (op_aso rfl rfl rfl rfl) ?_
  first | refine oC (oA rfl (Conv.of rfl) rfl) ?_ | refine oC (op_asl rfl rfl rfl rfl) ?_ | refine oC (op_aso rfl rfl rfl rfl) ?_
  first | refine oC (op_st ty26_WrldS rfl rfl (Conv.of rfl) rfl) ?_ | refine oC (op_ste ty26_WrldS rfl rfl (Conv.of rfl) rfl (by assumption)) ?_ | refine oC (op_stm ty26_WrldS rfl rfl rfl) ?_ | refine oC (op_stme ty26_WrldS rfl rfl rfl (by assumption)) ?_
  refine oN ?_
  first | refine aS (aR ?_) | refine aS (aS (aR ?_)) | refine aR ?_ | refine aS (aS (aS (aR ?_)))
  first | refine oC (oM rfl (Conv.of rfl) rfl) ?_ | refine oC (op_mvl rfl rfl rfl rfl) ?_ | refine oC (op_mvo rfl rfl rfl rfl) ?_
  refine oC (oLO fb40 (.cons rfl (Conv.of rfl) (.cons rfl (Conv.of rfl) (.nil _))) (pick_ct r1 40 (by unfold Far at hf; omega)) (olsk rfl ols0) (kK (by first | exact bC | exact bA | exact obOkW rfl | exact obOkW0 | exact obOkN | exact obOkS rfl | exact bN | exact obOkS0 | trivial) k0) (kK (by first | exact bC | exact bA | exact obOkW rfl | exact obOkW0 | exact obOkN | exact obOkS rfl | exact bN | exact obOkS0 | trivial) k0) rfl (argOb rfl rfl rfl (argOk' rfl rfl argO0)) (fun o ho => by cases ho) rfl) ?_
  refine oN ?_
  generalize pk r1 40 = q
  first | refine awp_seq_ex (ι := Wrld × Rd) (fun i => mkSt 61 [(5, .box 6 (IsLens.whole Wrld)), (2, .box 5 (IsLens.whole Wrld))] [(6, .cell i.1), (0, .cell i.2), (5, .cell Wrld.zero)]) (fun i => (i.1.nodes.length = 4 → Lw i.1) ∧ Far 21000 i.2) ?_ ?_ | refine nS (awp_to_ex (ι := Wrld × Rd) (fun i => mkSt 61 [(5, .box 6 (IsLens.whole Wrld)), (2, .box 5 (IsLens.whole Wrld))] [(6, .cell i.1), (0, .cell i.2), (5, .cell Wrld.zero)]) (fun i => (i.1.nodes.length = 4 → Lw i.1) ∧ Far 21000 i.2) ?_ ?_) | refine awp_to_ex (ι := Wrld × Rd) (fun i => mkSt 61 [(5, .box 6 (IsLens.whole Wrld)), (2, .box 5 (IsLens.whole Wrld))] [(6, .cell i.1), (0, .cell i.2), (5, .cell Wrld.zero)]) (fun i => (i.1.nodes.length = 4 → Lw i.1) ∧ Far 21000 i.2) ?_ ?_
  · by_cases hq3 : q = 3
    · subst hq3
      have hx : w.nodes[0]? = some (w.nodes[0]'(by omega)) := List.getElem?_eq_getElem (by omega)
      generalize w.nodes[0]'(by omega) = n at hx
      have hx' : (w.nodes.map sN)[(0 : Int).toNat]? = some (sN n) := by rw [List.getElem?_map]; show (w.nodes[0]?).map sN = _; rw [hx]; rfl
      have hy : ∀ y : NodS, ((w.nodes.map sN).set (0 : Int).toNat y)[(0 : Int).toNat]? = some y := fun y => by
        rw [List.getElem?_set_self (by rw [List.length_map]; show 0 < _; omega)]
      have hv := voteD_p hf1 (by omega)
      have hvf := voteD_far (m' := 20061) hf1 (by omega) (by omega)
      have hns := hlw.sl n (List.mem_of_getElem? hx)
      have hnf := hw.fine.sl n (List.mem_of_getElem? hx)
      first | refine aS (aB ?_) | refine aS (aS (aB ?_)) | refine aB ?_ | refine aS (aS (aS (aB ?_)))
      first | refine aS (aR ?_) | refine aS (aS (aR ?_)) | refine aR ?_ | refine aS (aS (aS (aR ?_)))
      refine oC (op_eql rfl rfl rfl) ?_
      first | refine oC (oA rfl (Conv.of rfl) rfl) ?_ | refine oC (op_asl rfl rfl rfl rfl) ?_ | refine oC (op_aso rfl rfl rfl rfl) ?_
      refine oN ?_
      first | refine aS (aC rfl (fun h => absurd h (by decide)) (fun h => ?_)) | refine aS (aS (aC rfl (fun h => absurd h (by decide)) (fun h => ?_))) | refine aC rfl (fun h => absurd h (by decide)) (fun h => ?_) | refine aS (aS (aS (aC rfl (fun h => absurd h (by decide)) (fun h => ?_))))
      first | refine aS (aR ?_) | refine aS (aS (aR ?_)) | refine aR ?_ | refine aS (aS (aS (aR ?_)))
      refine oC (op_eql rfl rfl rfl) ?_
      first | refine oC (oA rfl (Conv.of rfl) rfl) ?_ | refine oC (op_asl rfl rfl rfl rfl) ?_ | refine oC (op_aso rfl rfl rfl rfl) ?_
      refine oN ?_
      first | refine aS (aC rfl (fun h => absurd h (by decide)) (fun h => ?_)) | refine aS (aS (aC rfl (fun h => absurd h (by decide)) (fun h => ?_))) | refine aC rfl (fun h => absurd h (by decide)) (fun h => ?_) | refine aS (aS (aS (aC rfl (fun h => absurd h (by decide)) (fun h => ?_))))
      first | refine aS (aR ?_) | refine aS (aS (aR ?_)) | refine aR ?_ | refine aS (aS (aS (aR ?_)))
      refine oC (op_eql rfl rfl rfl) ?_
      first | refine oC (oA rfl (Conv.of rfl) rfl) ?_ | refine oC (op_asl rfl rfl rfl rfl) ?_ | refine oC (op_aso rfl rfl rfl rfl) ?_
      refine oN ?_
      first | refine aS (aC rfl (fun h => absurd h (by decide)) (fun h => ?_)) | refine aS (aS (aC rfl (fun h => absurd h (by decide)) (fun h => ?_))) | refine aC rfl (fun h => absurd h (by decide)) (fun h => ?_) | refine aS (aS (aS (aC rfl (fun h => absurd h (by decide)) (fun h => ?_))))
      first | refine aS (aR ?_) | refine aS (aS (aR ?_)) | refine aR ?_ | refine aS (aS (aS (aR ?_)))
      refine oC (op_eql rfl rfl rfl) ?_
      first | refine oC (oA rfl (Conv.of rfl) rfl) ?_ | refine oC (op_asl rfl rfl rfl rfl) ?_ | refine oC (op_aso rfl rfl rfl rfl) ?_
      refine oN ?_
      first | refine aS (aC rfl (fun h => ?_) (fun h => absurd h (by decide))) | refine aS (aS (aC rfl (fun h => ?_) (fun h => absurd h (by decide)))) | refine aC rfl (fun h => ?_) (fun h => absurd h (by decide)) | refine aS (aS (aS (aC rfl (fun h => ?_) (fun h => absurd h (by decide)))))
      first | refine aS (dS ?_) | refine aS (aS (dS ?_)) | refine dS ?_ | refine aS (aS (aS (dS ?_)))
      first | refine dC (oF f26_1_WrldS rfl rfl) ?_ | refine dC (oFR f26_1_WrldS rfl rfl) ?_ | refine dC (oFE f26_1_WrldS rfl rfl) ?_
      first | refine dC (oD ty23_NRef rfl rfl rfl) ?_ | refine dC (oDR ty23_NRef rfl rfl) ?_ | refine dC (op_lde ty23_NRef rfl rfl (by assumption) rfl) ?_ | refine dC (op_ldl ty23_NRef rfl rfl rfl) ?_ | refine dC (op_ldd ty23_NRef rfl rfl rfl) ?_ | refine dC (op_ldde ty23_NRef rfl rfl (by assumption) rfl) ?_
      first | refine dC (oF f26_1_WrldS rfl rfl) ?_ | refine dC (oFR f26_1_WrldS rfl rfl) ?_ | refine dC (oFE f26_1_WrldS rfl rfl) ?_
      first | refine dC (oD ty23_NRef rfl rfl rfl) ?_ | refine dC (oDR ty23_NRef rfl rfl) ?_ | refine dC (op_lde ty23_NRef rfl rfl (by assumption) rfl) ?_ | refine dC (op_ldl ty23_NRef rfl rfl rfl) ?_ | refine dC (op_ldd ty23_NRef rfl rfl rfl) ?_ | refine dC (op_ldde ty23_NRef rfl rfl (by assumption) rfl) ?_
      first | refine dC (op_ix sl23_NodS rfl rfl rfl (by omega) (by assumption)) ?_ | refine dC (op_ixA sl23_NodS rfl rfl rfl rfl ⟨by omega, by simp; omega⟩) ?_
      first | refine dC (oF f90_3_NodS rfl rfl) ?_ | refine dC (oFR f90_3_NodS rfl rfl) ?_ | refine dC (oFE f90_3_NodS rfl rfl) ?_
      first | refine dC (oD ty24_OListVote rfl rfl rfl) ?_ | refine dC (oDR ty24_OListVote rfl rfl) ?_ | refine dC (op_lde ty24_OListVote rfl rfl hx' rfl) ?_ | refine dC (op_ldm ty24_OListVote rfl rfl rfl) ?_ | refine dC (op_ldme ty24_OListVote rfl rfl hx' rfl) ?_
      first | refine dC (oM rfl (Conv.of rfl) rfl) ?_ | refine dC (op_mvl rfl rfl rfl rfl) ?_ | refine dC (op_mvo rfl rfl rfl rfl) ?_
      refine dC (oLO fb91 (.cons rfl (Conv.of rfl) (.nil _)) (voteD_ct (nx r1 1) (hf1.weak (by omega))) (olsk rfl ols0) (kK (by first | exact bC | exact bA | exact obOkW rfl | exact obOkW0 | exact obOkN | exact obOkS rfl | exact bN | exact obOkS0 | trivial) k0) (kK (by first | exact bC | exact bA | exact obOkW rfl | exact obOkW0 | exact obOkN | exact obOkS rfl | exact bN | exact obOkS0 | trivial) k0) rfl (argOb rfl rfl rfl argO0) (fun o ho => by cases ho) rfl) ?_
      refine dC (op_bsl sl24 z38 (.cons rfl (Conv.of rfl) (.nil _)) rfl (by decide) rfl) ?_
      refine dC (op_app sl24 z38 ul24 rfl rfl rfl (by (simp [sN]; omega)) (by (simp [sN]; omega)) rfl rfl) ?_
      first | refine dC (op_ix sl23_NodS rfl rfl rfl (by omega) (by assumption)) ?_ | refine dC (op_ixA sl23_NodS rfl rfl rfl rfl ⟨by omega, by simp; omega⟩) ?_
      first | refine dC (oF f90_3_NodS rfl rfl) ?_ | refine dC (oFR f90_3_NodS rfl rfl) ?_ | refine dC (oFE f90_3_NodS rfl rfl) ?_
      first | refine dC (op_st ty24_OListVote rfl rfl (Conv.of rfl) rfl) ?_ | refine dC (op_ste ty24_OListVote rfl rfl (Conv.of rfl) rfl (hy _)) ?_ | refine dC (op_stm ty24_OListVote rfl rfl rfl) ?_ | refine dC (op_stme ty24_OListVote rfl rfl rfl (hy _)) ?_
      refine dr_nil mixed rfl ?_
      repeat first | refine nS ?_ | refine nB ?_
      refine ⟨({ w with nodes := w.nodes.set 0 { n with seen := n.seen ++ [(voteDF (nx r1 1)).1] } }, (voteDF (nx r1 1)).2), ⟨fun _ => ?_, hvf.weak (by omega)⟩, ?_⟩
      · refine ⟨hlw.ep, by simp [h4], hlw.ll, hlw.lc, fun m hm => ?_⟩
        rcases List.mem_or_eq_of_mem_set hm with hm | hm
        · exact hlw.sl m hm
        · subst hm
          refine ⟨by simp; omega, fun u hu => ?_⟩
          rcases List.mem_append.1 hu with hu | hu
          · exact hns.2 u hu
          · simp at hu; subst hu; omega
      · exact Le.trans (Le.mk rfl (tlb rfl rfl rfl (tlb rfl rfl rfl tln)) (olk rfl (by first | exact bC | exact bA | exact obOkW rfl | exact obOkW0 | exact obOkN | exact obOkS rfl | exact bN | exact obOkS0 | trivial) (olk (by first | rfl | (exact congrArg Wt.Obj.arr (set_sN w.nodes 0 { n with seen := n.seen ++ [(voteDF (nx r1 1)).1] } _))) (by first | exact bC | exact bA | exact obOkW rfl | exact obOkW0 | exact obOkN | exact obOkS rfl | exact bN | exact obOkS0 | trivial) (olk rfl (by first | exact bC | exact bA | exact obOkW rfl | exact obOkW0 | exact obOkN | exact obOkS rfl | exact bN | exact obOkS0 | trivial) (olk rfl (by first | exact bC | exact bA | exact obOkW rfl | exact obOkW0 | exact obOkN | exact obOkS rfl | exact bN | exact obOkS0 | trivial) oln)))) (hU (a := [(0, .cell r)]) rfl)) (Le.frzW (t := 5) (c := 6) (o := 1) (w0 := { w with nodes := w.nodes.set 0 { n with seen := n.seen ++ [(voteDF (nx r1 1)).1] } }) (own := true) (by show _ ≤ 4611686018427387904; simp; omega) rfl (hU rfl) rfl rfl rfl (oblk bC (oblk bC obl0)))
    by_cases hq2 : q = 2
    · subst hq2
      have hv := voteD_p hf1 (by omega)
      have hvf := voteD_far (m' := 20061) hf1 (by omega) (by omega)
      first | refine aS (aB ?_) | refine aS (aS (aB ?_)) | refine aB ?_ | refine aS (aS (aS (aB ?_)))
      first | refine aS (aR ?_) | refine aS (aS (aR ?_)) | refine aR ?_ | refine aS (aS (aS (aR ?_)))
      refine oC (op_eql rfl rfl rfl) ?_
      first | refine oC (oA rfl (Conv.of rfl) rfl) ?_ | refine oC (op_asl rfl rfl rfl rfl) ?_ | refine oC (op_aso rfl rfl rfl rfl) ?_
      refine oN ?_
      first | refine aS (aC rfl (fun h => absurd h (by decide)) (fun h => ?_)) | refine aS (aS (aC rfl (fun h => absurd h (by decide)) (fun h => ?_))) | refine aC rfl (fun h => absurd h (by decide)) (fun h => ?_) | refine aS (aS (aS (aC rfl (fun h => absurd h (by decide)) (fun h => ?_))))
      first | refine aS (aR ?_) | refine aS (aS (aR ?_)) | refine aR ?_ | refine aS (aS (aS (aR ?_)))
      refine oC (op_eql rfl rfl rfl) ?_
      first | refine oC (oA rfl (Conv.of rfl) rfl) ?_ | refine oC (op_asl rfl rfl rfl rfl) ?_ | refine oC (op_aso rfl rfl rfl rfl) ?_
      refine oN ?_
      first | refine aS (aC rfl (fun h => absurd h (by decide)) (fun h => ?_)) | refine aS (aS (aC rfl (fun h => absurd h (by decide)) (fun h => ?_))) | refine aC rfl (fun h => absurd h (by decide)) (fun h => ?_) | refine aS (aS (aS (aC rfl (fun h => absurd h (by decide)) (fun h => ?_))))
      first | refine aS (aR ?_) | refine aS (aS (aR ?_)) | refine aR ?_ | refine aS (aS (aS (aR ?_)))
      refine oC (op_eql rfl rfl rfl) ?_
      first | refine oC (oA rfl (Conv.of rfl) rfl) ?_ | refine oC (op_asl rfl rfl rfl rfl) ?_ | refine oC (op_aso rfl rfl rfl rfl) ?_
      refine oN ?_
      first | refine aS (aC rfl (fun h => ?_) (fun h => absurd h (by decide))) | refine aS (aS (aC rfl (fun h => ?_) (fun h => absurd h (by decide)))) | refine aC rfl (fun h => ?_) (fun h => absurd h (by decide)) | refine aS (aS (aS (aC rfl (fun h => ?_) (fun h => absurd h (by decide)))))
      first | refine aS (dS ?_) | refine aS (aS (dS ?_)) | refine dS ?_ | refine aS (aS (aS (dS ?_)))
      first | refine dC (oF f26_2_WrldS rfl rfl) ?_ | refine dC (oFR f26_2_WrldS rfl rfl) ?_ | refine dC (oFE f26_2_WrldS rfl rfl) ?_
      first | refine dC (oD ty24_OListVote rfl rfl rfl) ?_ | refine dC (oDR ty24_OListVote rfl rfl) ?_ | refine dC (op_lde ty24_OListVote rfl rfl (by assumption) rfl) ?_ | refine dC (op_ldm ty24_OListVote rfl rfl rfl) ?_ | refine dC (op_ldme ty24_OListVote rfl rfl (by assumption) rfl) ?_
      first | refine dC (oM rfl (Conv.of rfl) rfl) ?_ | refine dC (op_mvl rfl rfl rfl rfl) ?_ | refine dC (op_mvo rfl rfl rfl rfl) ?_
      refine dC (oLO fb91 (.cons rfl (Conv.of rfl) (.nil _)) (voteD_ct (nx r1 1) (hf1.weak (by omega))) (olsk rfl ols0) (kK (by first | exact bC | exact bA | exact obOkW rfl | exact obOkW0 | exact obOkN | exact obOkS rfl | exact bN | exact obOkS0 | trivial) k0) (kK (by first | exact bC | exact bA | exact obOkW rfl | exact obOkW0 | exact obOkN | exact obOkS rfl | exact bN | exact obOkS0 | trivial) k0) rfl (argOb rfl rfl rfl argO0) (fun o ho => by cases ho) rfl) ?_
      refine dC (op_bsl sl24 z38 (.cons rfl (Conv.of rfl) (.nil _)) rfl (by decide) rfl) ?_
      refine dC (op_app sl24 z38 ul24 rfl rfl rfl (by (simp [sW]; omega)) (by (simp [sW]; omega)) rfl rfl) ?_
      first | refine dC (oF f26_2_WrldS rfl rfl) ?_ | refine dC (oFR f26_2_WrldS rfl rfl) ?_ | refine dC (oFE f26_2_WrldS rfl rfl) ?_
      first | refine dC (op_st ty24_OListVote rfl rfl (Conv.of rfl) rfl) ?_ | refine dC (op_ste ty24_OListVote rfl rfl (Conv.of rfl) rfl (by assumption)) ?_ | refine dC (op_stm ty24_OListVote rfl rfl rfl) ?_ | refine dC (op_stme ty24_OListVote rfl rfl rfl (by assumption)) ?_
      refine dr_nil mixed rfl ?_
      repeat first | refine nS ?_ | refine nB ?_
      refine ⟨({ w with log := w.log ++ [(voteDF (nx r1 1)).1] }, (voteDF (nx r1 1)).2), ⟨fun _ => ?_, hvf.weak (by omega)⟩, ?_⟩
      · refine ⟨hlw.ep, h4, by simp; omega, fun u hu => ?_, hlw.sl⟩
        rcases List.mem_append.1 hu with hu | hu
        · exact hlw.lc u hu
        · simp at hu; subst hu; omega
      · exact Le.trans (Le.mk rfl (tlb rfl rfl rfl (tlb rfl rfl rfl tln)) (olk rfl (by first | exact bC | exact bA | exact obOkW rfl | exact obOkW0 | exact obOkN | exact obOkS rfl | exact bN | exact obOkS0 | trivial) (olk rfl (by first | exact bC | exact bA | exact obOkW rfl | exact obOkW0 | exact obOkN | exact obOkS rfl | exact bN | exact obOkS0 | trivial) (olk rfl (by first | exact bC | exact bA | exact obOkW rfl | exact obOkW0 | exact obOkN | exact obOkS rfl | exact bN | exact obOkS0 | trivial) (olk rfl (by first | exact bC | exact bA | exact obOkW rfl | exact obOkW0 | exact obOkN | exact obOkS rfl | exact bN | exact obOkS0 | trivial) oln)))) (hU (a := [(0, .cell r)]) rfl)) (Le.frzW (t := 5) (c := 6) (o := 1) (w0 := { w with log := w.log ++ [(voteDF (nx r1 1)).1] }) (own := true) (by show _ ≤ 4611686018427387904; simp; omega) rfl (hU rfl) rfl rfl rfl (oblk bC (oblk bC obl0)))
    · refine awp_le (Le.trans (b := mkSt 61 [(5, .box 6 (IsLens.whole WrldS)), (2, .box 5 (IsLens.whole Wrld)), (0, .box 0 (IsLens.whole Rd)), (13, .v q)] [(6, .cell (WrldS.mk w.epoch (.ref 1) ⟨w.log, true⟩ w.bad)), (1, .arr (w.nodes.map sN)), (0, .cell (nx r1 1)), (5, .cell Wrld.zero)]) (Le.mk rfl (tlb rfl rfl rfl (tlb rfl rfl rfl (tlb rfl rfl rfl (tle rfl (rfl) rfl tln)))) (olk rfl (by first | exact bC | exact bA | exact obOkW rfl | exact obOkW0 | exact obOkN | exact obOkS rfl | exact bN | exact obOkS0 | trivial) (olk rfl (by first | exact bC | exact bA | exact obOkW rfl | exact obOkW0 | exact obOkN | exact obOkS rfl | exact bN | exact obOkS0 | trivial) (olk rfl (by first | exact bC | exact bA | exact obOkW rfl | exact obOkW0 | exact obOkN | exact obOkS rfl | exact bN | exact obOkS0 | trivial) (olk rfl (by first | exact bC | exact bA | exact obOkW rfl | exact obOkW0 | exact obOkN | exact obOkS rfl | exact bN | exact obOkS0 | trivial) oln)))) (hU (a := [(0, .cell r)]) rfl)) (Le.frzW (t := 5) (c := 6) (o := 1) (w0 := w) (own := true) (by show _ ≤ 4611686018427387904; omega) rfl (hU rfl) rfl rfl rfl (oblk bC (oblk bC obl0)))) ?_
      have d3 := pk_bd hf1 (by omega) 3
      have f3 := d3.2 (by omega)
      have g3 := gi_get (l := [-1, 31, 0]) d3.1 (by simp; omega)
      have d2 := pk_bd hf1 (by omega) 2
      have f2 := d2.2 (by omega)
      have g2 := gi_get (l := [-1, 5]) d2.1 (by simp; omega)
      have hf2 : Far 20002 (nx (nx r1 1) 1) := hf1.nx (by omega) (by omega)
      first | refine aS (aB ?_) | refine aS (aS (aB ?_)) | refine aB ?_ | refine aS (aS (aS (aB ?_)))
      first | refine aS (aR ?_) | refine aS (aS (aR ?_)) | refine aR ?_ | refine aS (aS (aS (aR ?_)))
      refine oC (op_eql rfl rfl rfl) ?_
      first | refine oC (oA rfl (Conv.of rfl) rfl) ?_ | refine oC (op_asl rfl rfl rfl rfl) ?_ | refine oC (op_aso rfl rfl rfl rfl) ?_
      refine oN ?_
      first | refine aS (aC rfl (fun h => ?_) (fun h => ?_)) | refine aS (aS (aC rfl (fun h => ?_) (fun h => ?_))) | refine aC rfl (fun h => ?_) (fun h => ?_) | refine aS (aS (aS (aC rfl (fun h => ?_) (fun h => ?_))))
      · first | refine aS (aR ?_) | refine aS (aS (aR ?_)) | refine aR ?_ | refine aS (aS (aS (aR ?_)))
        refine oC (op_bsl sl93 z3 (.cons rfl (Conv.of rfl) (.cons rfl (Conv.of rfl) (.cons rfl (Conv.of rfl) (.nil _)))) rfl (by decide) rfl) ?_
        first | refine oC (oM rfl (Conv.of rfl) rfl) ?_ | refine oC (op_mvl rfl rfl rfl rfl) ?_ | refine oC (op_mvo rfl rfl rfl rfl) ?_
        refine oC (oLO fb40 (.cons rfl (Conv.of rfl) (.cons rfl (Conv.of rfl) (.nil _))) (pick_ct (nx r1 1) 3 (by unfold Far at hf1; omega)) (olsk rfl ols0) (kK (by first | exact bC | exact bA | exact obOkW rfl | exact obOkW0 | exact obOkN | exact obOkS rfl | exact bN | exact obOkS0 | trivial) k0) (kK (by first | exact bC | exact bA | exact obOkW rfl | exact obOkW0 | exact obOkN | exact obOkS rfl | exact bN | exact obOkS0 | trivial) k0) rfl (argOb rfl rfl rfl (argOk' rfl rfl argO0)) (fun o ho => by cases ho) rfl) ?_
        first | refine oC (op_ix sl93 rfl rfl rfl d3.1 g3) ?_ | refine oC (op_ixA sl93 rfl rfl rfl rfl (by omega)) ?_
        first | refine oC (oD ty3 rfl rfl rfl) ?_ | refine oC (oDR ty3 rfl rfl) ?_ | refine oC (op_lde ty3 rfl rfl (by assumption) rfl) ?_ | refine oC (op_ldl ty3 rfl rfl rfl) ?_ | refine oC (op_ldd ty3 rfl rfl rfl) ?_ | refine oC (op_ldde ty3 rfl rfl (by assumption) rfl) ?_
        first | refine oC (oF f26_0_Wrld rfl rfl) ?_ | refine oC (oFR f26_0_Wrld rfl rfl) ?_ | refine oC (oFE f26_0_Wrld rfl rfl) ?_
        first | refine oC (op_st ty3 rfl rfl (Conv.of rfl) rfl) ?_ | refine oC (op_ste ty3 rfl rfl (Conv.of rfl) rfl (by assumption)) ?_ | refine oC (op_stm ty3 rfl rfl rfl) ?_ | refine oC (op_stme ty3 rfl rfl rfl (by assumption)) ?_
        refine oN ?_
        repeat first | refine nS ?_ | refine nB ?_
        refine ⟨({ w with epoch := gi [-1, 31, 0] (pk (nx r1 1) 3) }, nx (nx r1 1) 1), ⟨fun _ => ⟨?_, h4, hlw.ll, hlw.lc, hlw.sl⟩, hf2.weak (by omega)⟩, Le.mk rfl (tlb rfl rfl rfl (tlb rfl rfl rfl tln)) (olk rfl (by first | exact bC | exact bA | exact obOkW rfl | exact obOkW0 | exact obOkN | exact obOkS rfl | exact bN | exact obOkS0 | trivial) (olk rfl (by first | exact bC | exact bA | exact obOkW rfl | exact obOkW0 | exact obOkN | exact obOkS rfl | exact bN | exact obOkS0 | trivial) (olk rfl (by first | exact bC | exact bA | exact obOkW rfl | exact obOkW0 | exact obOkN | exact obOkS rfl | exact bN | exact obOkS0 | trivial) oln))) (hU (a := [(0, .cell r)]) rfl)⟩
        have := List.mem_of_getElem? g3
        simp at this
        show -100 ≤ gi [-1, 31, 0] (pk (nx r1 1) 3) ∧ gi [-1, 31, 0] (pk (nx r1 1) 3) ≤ 100
        omega
      · first | refine aS (aR ?_) | refine aS (aS (aR ?_)) | refine aR ?_ | refine aS (aS (aS (aR ?_)))
        refine oC (op_eql rfl rfl rfl) ?_
        first | refine oC (oA rfl (Conv.of rfl) rfl) ?_ | refine oC (op_asl rfl rfl rfl rfl) ?_ | refine oC (op_aso rfl rfl rfl rfl) ?_
        refine oN ?_
        first | refine aS (aC rfl (fun h2 => ?_) (fun h2 => ?_)) | refine aS (aS (aC rfl (fun h2 => ?_) (fun h2 => ?_))) | refine aC rfl (fun h2 => ?_) (fun h2 => ?_) | refine aS (aS (aS (aC rfl (fun h2 => ?_) (fun h2 => ?_))))
        · first | refine aS (aR ?_) | refine aS (aS (aR ?_)) | refine aR ?_ | refine aS (aS (aS (aR ?_)))
          first | refine oC (oF f26_1_Wrld rfl rfl) ?_ | refine oC (oFR f26_1_Wrld rfl rfl) ?_ | refine oC (oFE f26_1_Wrld rfl rfl) ?_
          first | refine oC (oD ty23_ListNod rfl rfl rfl) ?_ | refine oC (oDR ty23_ListNod rfl rfl) ?_ | refine oC (op_lde ty23_ListNod rfl rfl (by assumption) rfl) ?_ | refine oC (op_ldl ty23_ListNod rfl rfl rfl) ?_ | refine oC (op_ldd ty23_ListNod rfl rfl rfl) ?_ | refine oC (op_ldde ty23_ListNod rfl rfl (by assumption) rfl) ?_
          refine oC (op_sll sl23 rfl rfl rfl ⟨by omega, by (try simp); omega⟩) ?_
          first | refine oC (oF f26_1_Wrld rfl rfl) ?_ | refine oC (oFR f26_1_Wrld rfl rfl) ?_ | refine oC (oFE f26_1_Wrld rfl rfl) ?_
          first | refine oC (op_st ty23_ListNod rfl rfl (Conv.of rfl) rfl) ?_ | refine oC (op_ste ty23_ListNod rfl rfl (Conv.of rfl) rfl (by assumption)) ?_ | refine oC (op_stm ty23_ListNod rfl rfl rfl) ?_ | refine oC (op_stme ty23_ListNod rfl rfl rfl (by assumption)) ?_
          refine oN ?_
          repeat first | refine nS ?_ | refine nB ?_
          refine ⟨({ w with nodes := w.nodes.drop 1 }, nx r1 1), ⟨fun h9 => absurd h9 (by simp; omega), hf1.weak (by omega)⟩, Le.mk rfl (tlb rfl rfl rfl (tlb rfl rfl rfl tln)) (olk (by first | rfl | (simp)) (by first | exact bC | exact bA | exact obOkW rfl | exact obOkW0 | exact obOkN | exact obOkS rfl | exact bN | exact obOkS0 | trivial) (olk rfl (by first | exact bC | exact bA | exact obOkW rfl | exact obOkW0 | exact obOkN | exact obOkS rfl | exact bN | exact obOkS0 | trivial) (olk rfl (by first | exact bC | exact bA | exact obOkW rfl | exact obOkW0 | exact obOkN | exact obOkS rfl | exact bN | exact obOkS0 | trivial) oln))) (hU (a := [(0, .cell r)]) rfl)⟩
        · first | refine aS (aR ?_) | refine aS (aS (aR ?_)) | refine aR ?_ | refine aS (aS (aS (aR ?_)))
          refine oC (op_eql rfl rfl rfl) ?_
          first | refine oC (oA rfl (Conv.of rfl) rfl) ?_ | refine oC (op_asl rfl rfl rfl rfl) ?_ | refine oC (op_aso rfl rfl rfl rfl) ?_
          refine oN ?_
          first | refine aS (aC rfl (fun h3 => absurd (of_decide_eq_true h3) hq2) (fun h3 => ?_)) | refine aS (aS (aC rfl (fun h3 => absurd (of_decide_eq_true h3) hq2) (fun h3 => ?_))) | refine aC rfl (fun h3 => absurd (of_decide_eq_true h3) hq2) (fun h3 => ?_) | refine aS (aS (aS (aC rfl (fun h3 => absurd (of_decide_eq_true h3) hq2) (fun h3 => ?_))))
          first | refine aS (aR ?_) | refine aS (aS (aR ?_)) | refine aR ?_ | refine aS (aS (aS (aR ?_)))
          refine oC (op_eql rfl rfl rfl) ?_
          first | refine oC (oA rfl (Conv.of rfl) rfl) ?_ | refine oC (op_asl rfl rfl rfl rfl) ?_ | refine oC (op_aso rfl rfl rfl rfl) ?_
          refine oN ?_
          first | refine aS (aC rfl (fun h3 => absurd (of_decide_eq_true h3) hq3) (fun h3 => ?_)) | refine aS (aS (aC rfl (fun h3 => absurd (of_decide_eq_true h3) hq3) (fun h3 => ?_))) | refine aC rfl (fun h3 => absurd (of_decide_eq_true h3) hq3) (fun h3 => ?_) | refine aS (aS (aS (aC rfl (fun h3 => absurd (of_decide_eq_true h3) hq3) (fun h3 => ?_))))
          first | refine aS (aR ?_) | refine aS (aS (aR ?_)) | refine aR ?_ | refine aS (aS (aS (aR ?_)))
          refine oC (op_eql rfl rfl rfl) ?_
          first | refine oC (oA rfl (Conv.of rfl) rfl) ?_ | refine oC (op_asl rfl rfl rfl rfl) ?_ | refine oC (op_aso rfl rfl rfl rfl) ?_
          refine oN ?_
          first | refine aS (aC rfl (fun h4 => ?_) (fun h4 => ?_)) | refine aS (aS (aC rfl (fun h4 => ?_) (fun h4 => ?_))) | refine aC rfl (fun h4 => ?_) (fun h4 => ?_) | refine aS (aS (aS (aC rfl (fun h4 => ?_) (fun h4 => ?_))))
          · first | refine aS (aR ?_) | refine aS (aS (aR ?_)) | refine aR ?_ | refine aS (aS (aS (aR ?_)))
            refine oC (op_bsl sl93 z3 (.cons rfl (Conv.of rfl) (.cons rfl (Conv.of rfl) (.nil _))) rfl (by decide) rfl) ?_
            first | refine oC (oM rfl (Conv.of rfl) rfl) ?_ | refine oC (op_mvl rfl rfl rfl rfl) ?_ | refine oC (op_mvo rfl rfl rfl rfl) ?_
            refine oC (oLO fb40 (.cons rfl (Conv.of rfl) (.cons rfl (Conv.of rfl) (.nil _))) (pick_ct (nx r1 1) 2 (by unfold Far at hf1; omega)) (olsk rfl ols0) (kK (by first | exact bC | exact bA | exact obOkW rfl | exact obOkW0 | exact obOkN | exact obOkS rfl | exact bN | exact obOkS0 | trivial) k0) (kK (by first | exact bC | exact bA | exact obOkW rfl | exact obOkW0 | exact obOkN | exact obOkS rfl | exact bN | exact obOkS0 | trivial) k0) rfl (argOb rfl rfl rfl (argOk' rfl rfl argO0)) (fun o ho => by cases ho) rfl) ?_
            first | refine oC (op_ix sl93 rfl rfl rfl d2.1 g2) ?_ | refine oC (op_ixA sl93 rfl rfl rfl rfl (by omega)) ?_
            first | refine oC (oD ty3 rfl rfl rfl) ?_ | refine oC (oDR ty3 rfl rfl) ?_ | refine oC (op_lde ty3 rfl rfl (by assumption) rfl) ?_ | refine oC (op_ldl ty3 rfl rfl rfl) ?_ | refine oC (op_ldd ty3 rfl rfl rfl) ?_ | refine oC (op_ldde ty3 rfl rfl (by assumption) rfl) ?_
            first | refine oC (oF f26_3_Wrld rfl rfl) ?_ | refine oC (oFR f26_3_Wrld rfl rfl) ?_ | refine oC (oFE f26_3_Wrld rfl rfl) ?_
            first | refine oC (op_st ty3 rfl rfl (Conv.of rfl) rfl) ?_ | refine oC (op_ste ty3 rfl rfl (Conv.of rfl) rfl (by assumption)) ?_ | refine oC (op_stm ty3 rfl rfl rfl) ?_ | refine oC (op_stme ty3 rfl rfl rfl (by assumption)) ?_
            refine oN ?_
            repeat first | refine nS ?_ | refine nB ?_
            refine ⟨({ w with bad := gi [-1, 5] (pk (nx r1 1) 2) }, nx (nx r1 1) 1), ⟨fun _ => ⟨hlw.ep, hlw.four, hlw.ll, hlw.lc, hlw.sl⟩, hf2.weak (by omega)⟩, Le.mk rfl (tlb rfl rfl rfl (tlb rfl rfl rfl tln)) (olk rfl (by first | exact bC | exact bA | exact obOkW rfl | exact obOkW0 | exact obOkN | exact obOkS rfl | exact bN | exact obOkS0 | trivial) (olk rfl (by first | exact bC | exact bA | exact obOkW rfl | exact obOkW0 | exact obOkN | exact obOkS rfl | exact bN | exact obOkS0 | trivial) (olk rfl (by first | exact bC | exact bA | exact obOkW rfl | exact obOkW0 | exact obOkN | exact obOkS rfl | exact bN | exact obOkS0 | trivial) oln))) (hU (a := [(0, .cell r)]) rfl)⟩
          · refine aW ?_
            repeat first | refine nS ?_ | refine nB ?_
            refine ⟨(w, nx r1 1), ⟨fun _ => hlw, hf1.weak (by omega)⟩, Le.mk rfl (tlb rfl rfl rfl (tlb rfl rfl rfl tln)) (olk rfl (by first | exact bC | exact bA | exact obOkW rfl | exact obOkW0 | exact obOkN | exact obOkS rfl | exact bN | exact obOkS0 | trivial) (olk rfl (by first | exact bC | exact bA | exact obOkW rfl | exact obOkW0 | exact obOkN | exact obOkS rfl | exact bN | exact obOkS0 | trivial) (olk rfl (by first | exact bC | exact bA | exact obOkW rfl | exact obOkW0 | exact obOkN | exact obOkS rfl | exact bN | exact obOkS0 | trivial) oln))) (hU (a := [(0, .cell r)]) rfl)⟩
  · rintro ⟨w2, r2⟩ ⟨hl2, hf2⟩
    simp only at hl2 hf2 ⊢
    first | refine aS (aR ?_) | refine aS (aS (aR ?_)) | refine aR ?_ | refine aS (aS (aS (aR ?_)))
    first | refine oC (oD ty26_Wrld rfl rfl rfl) ?_ | refine oC (oDR ty26_Wrld rfl rfl) ?_ | refine oC (op_lde ty26_Wrld rfl rfl (by assumption) rfl) ?_ | refine oC (op_ldl ty26_Wrld rfl rfl rfl) ?_ | refine oC (op_ldd ty26_Wrld rfl rfl rfl) ?_ | refine oC (op_ldde ty26_Wrld rfl rfl (by assumption) rfl) ?_
    first | refine oC (op_st ty26_Wrld rfl rfl (Conv.of rfl) rfl) ?_ | refine oC (op_ste ty26_Wrld rfl rfl (Conv.of rfl) rfl (by assumption)) ?_ | refine oC (op_stm ty26_Wrld rfl rfl rfl) ?_ | refine oC (op_stme ty26_Wrld rfl rfl rfl (by assumption)) ?_
    refine oN ?_
    refine aT ?_
    repeat first | refine rS ?_ | refine rB ?_
    exact ⟨_, _, res1 (ol := [(0, .cell r2)]) (.rc ty26_Wrld rfl rfl) (fun o ho => by cases ho) (olk rfl bC oln) (hK rfl), w2, r2, rfl, rfl, hl2, hf2⟩
end Go.Proofs.YtmhmeppocbcmeaaGreat

/- The reference: a drawn world and an event; a drawn world and payments. -/
set_option linter.unusedVariables false
set_option linter.unusedSimpArgs false
namespace Go.Proofs.YtmhmeppocbcmeaaGreat
open Go Go.Wt
end Go.Proofs.YtmhmeppocbcmeaaGreat

/- The laws' own words: the same chains, votes, nodes, worlds. -/
set_option linter.unusedVariables false
set_option linter.unusedSimpArgs false
namespace Go.Proofs.YtmhmeppocbcmeaaGreat
open Go Go.Wt
theorem lwSame_ct (a b : List Itm) : CtP Tryz.prog 115 [.v a, .v b] (.v (decide (a = b))) := by
  refine Ct.intro Tryz.func115 rfl rfl ?_
  refine awp_bigL 0 rfl (fun hB => ?_)
  first | refine aS (aR ?_) | refine aS (aS (aR ?_)) | refine aR ?_ | refine aS (aS (aS (aR ?_)))
  refine oC (oA rfl (Conv.of rfl) rfl) ?_
  refine oN ?_
  first | refine aS (aR ?_) | refine aS (aS (aR ?_)) | refine aR ?_ | refine aS (aS (aS (aR ?_)))
  first | refine oC (oM rfl (Conv.of rfl) rfl) ?_ | refine oC (op_mvl rfl rfl rfl rfl) ?_ | refine oC (op_mvo rfl rfl rfl rfl) ?_
  first | refine oC (oE sl27 rfl rfl) ?_ | refine oC (oEA sl27 rfl rfl rfl) ?_
  first | refine oC (oM rfl (Conv.of rfl) rfl) ?_ | refine oC (op_mvl rfl rfl rfl rfl) ?_ | refine oC (op_mvo rfl rfl rfl rfl) ?_
  first | refine oC (oE sl27 rfl rfl) ?_ | refine oC (oEA sl27 rfl rfl rfl) ?_
  refine oC (op_neq rfl rfl rfl) ?_
  refine oN ?_
  first | refine aS (aC rfl (fun h => ?_) (fun h => ?_)) | refine aS (aS (aC rfl (fun h => ?_) (fun h => ?_))) | refine aC rfl (fun h => ?_) (fun h => ?_) | refine aS (aS (aS (aC rfl (fun h => ?_) (fun h => ?_))))
  · first | refine aS (aR ?_) | refine aS (aS (aR ?_)) | refine aR ?_ | refine aS (aS (aS (aR ?_)))
    refine oC (oA rfl (Conv.of rfl) rfl) ?_
    refine oN ?_
    refine aT ?_
    repeat first | refine rS ?_ | refine rB ?_
    refine finP (.v rfl (Conv.of rfl)) rfl ?_
    show AV.v false = _
    have : a ≠ b := by intro e; subst e; simp at h
    simp [this]
  · refine aW ?_
    have hlen : a.length = b.length := by simp at h; omega
    first | refine aS (aR ?_) | refine aS (aS (aR ?_)) | refine aR ?_ | refine aS (aS (aS (aR ?_)))
    refine oC (oA rfl (Conv.of rfl) rfl) ?_
    refine oN ?_
    first | refine aS (aB ?_) | refine aS (aS (aB ?_)) | refine aB ?_ | refine aS (aS (aS (aB ?_)))
    first | refine aS (awp_loop' (fun n s => ∃ (k : Nat), ∃ (hn : n + k = a.length), ∃ (hall : decide (a = b) = decide (a.drop k = b.drop k)), s = mkSt 26 [(0, .v a), (1, .v b), (5, .v (k : Int))] []) (a.length) ⟨0, by omega, rfl, rfl⟩ (Le.mk rfl (tle rfl (rfl) rfl (tle rfl (rfl) rfl (tle rfl (rfl) rfl tln))) oln noS) ?_) | refine aS (aS (awp_loop' (fun n s => ∃ (k : Nat), ∃ (hn : n + k = a.length), ∃ (hall : decide (a = b) = decide (a.drop k = b.drop k)), s = mkSt 26 [(0, .v a), (1, .v b), (5, .v (k : Int))] []) (a.length) ⟨0, by omega, rfl, rfl⟩ (Le.mk rfl (tle rfl (rfl) rfl (tle rfl (rfl) rfl (tle rfl (rfl) rfl tln))) oln noS) ?_)) | refine awp_loop' (fun n s => ∃ (k : Nat), ∃ (hn : n + k = a.length), ∃ (hall : decide (a = b) = decide (a.drop k = b.drop k)), s = mkSt 26 [(0, .v a), (1, .v b), (5, .v (k : Int))] []) (a.length) ⟨0, by omega, rfl, rfl⟩ (Le.mk rfl (tle rfl (rfl) rfl (tle rfl (rfl) rfl (tle rfl (rfl) rfl tln))) oln noS) ?_ | refine aS (aS (aS (awp_loop' (fun n s => ∃ (k : Nat), ∃ (hn : n + k = a.length), ∃ (hall : decide (a = b) = decide (a.drop k = b.drop k)), s = mkSt 26 [(0, .v a), (1, .v b), (5, .v (k : Int))] []) (a.length) ⟨0, by omega, rfl, rfl⟩ (Le.mk rfl (tle rfl (rfl) rfl (tle rfl (rfl) rfl (tle rfl (rfl) rfl tln))) oln noS) ?_)))
    rintro n s ⟨k, hn, hall, rfl⟩
    first | refine aS (aR ?_) | refine aS (aS (aR ?_)) | refine aR ?_ | refine aS (aS (aS (aR ?_)))
    first | refine oC (oM rfl (Conv.of rfl) rfl) ?_ | refine oC (op_mvl rfl rfl rfl rfl) ?_ | refine oC (op_mvo rfl rfl rfl rfl) ?_
    first | refine oC (oM rfl (Conv.of rfl) rfl) ?_ | refine oC (op_mvl rfl rfl rfl rfl) ?_ | refine oC (op_mvo rfl rfl rfl rfl) ?_
    first | refine oC (oE sl27 rfl rfl) ?_ | refine oC (oEA sl27 rfl rfl rfl) ?_
    refine oC (oLt rfl rfl rfl) ?_
    refine oN ?_
    first | refine aS (aC rfl (fun h => ?_) (fun h => ?_)) | refine aS (aS (aC rfl (fun h => ?_) (fun h => ?_))) | refine aC rfl (fun h => ?_) (fun h => ?_) | refine aS (aS (aS (aC rfl (fun h => ?_) (fun h => ?_))))
    · have hlt : k < a.length := by simpa using h
      have hx : a[k]? = some a[k] := List.getElem?_eq_getElem hlt
      have hy : b[k]? = some (b[k]'(by omega)) := List.getElem?_eq_getElem (by omega)
      have hs := same_drop hx hy
      refine aW ?_
      first | refine aS (aB ?_) | refine aS (aS (aB ?_)) | refine aB ?_ | refine aS (aS (aS (aB ?_)))
      first | refine aS (dS ?_) | refine aS (aS (dS ?_)) | refine dS ?_ | refine aS (aS (aS (dS ?_)))
      first | refine dC (oM rfl (Conv.of rfl) rfl) ?_ | refine dC (op_mvl rfl rfl rfl rfl) ?_ | refine dC (op_mvo rfl rfl rfl rfl) ?_
      first | refine dC (oM rfl (Conv.of rfl) rfl) ?_ | refine dC (op_mvl rfl rfl rfl rfl) ?_ | refine dC (op_mvo rfl rfl rfl rfl) ?_
      first | refine dC (op_ix sl27 rfl rfl rfl (by omega) hx) ?_ | refine dC (op_ixA sl27 rfl rfl rfl rfl (by omega)) ?_
      first | refine dC (oD ty143 rfl rfl rfl) ?_ | refine dC (oDR ty143 rfl rfl) ?_ | refine dC (op_lde ty143 rfl rfl (by assumption) rfl) ?_ | refine dC (op_ldl ty143 rfl rfl rfl) ?_ | refine dC (op_ldd ty143 rfl rfl rfl) ?_ | refine dC (op_ldde ty143 rfl rfl (by assumption) rfl) ?_
      first | refine dC (oM rfl (Conv.of rfl) rfl) ?_ | refine dC (op_mvl rfl rfl rfl rfl) ?_ | refine dC (op_mvo rfl rfl rfl rfl) ?_
      first | refine dC (oM rfl (Conv.of rfl) rfl) ?_ | refine dC (op_mvl rfl rfl rfl rfl) ?_ | refine dC (op_mvo rfl rfl rfl rfl) ?_
      first | refine dC (op_ix sl27 rfl rfl rfl (by omega) hy) ?_ | refine dC (op_ixA sl27 rfl rfl rfl rfl (by omega)) ?_
      first | refine dC (oD ty143 rfl rfl rfl) ?_ | refine dC (oDR ty143 rfl rfl) ?_ | refine dC (op_lde ty143 rfl rfl (by assumption) rfl) ?_ | refine dC (op_ldl ty143 rfl rfl rfl) ?_ | refine dC (op_ldd ty143 rfl rfl rfl) ?_ | refine dC (op_ldde ty143 rfl rfl (by assumption) rfl) ?_
      refine dC (op_nea weq143 rfl rfl rfl) ?_
      refine dr_nil mixed rfl ?_
      first | refine aS (aC rfl (fun h => ?_) (fun h => ?_)) | refine aS (aS (aC rfl (fun h => ?_) (fun h => ?_))) | refine aC rfl (fun h => ?_) (fun h => ?_) | refine aS (aS (aS (aC rfl (fun h => ?_) (fun h => ?_))))
      · first | refine aS (aR ?_) | refine aS (aS (aR ?_)) | refine aR ?_ | refine aS (aS (aS (aR ?_)))
        refine oC (oA rfl (Conv.of rfl) rfl) ?_
        refine oN ?_
        refine aT ?_
        repeat first | refine rS ?_ | refine rB ?_
        refine finP (.v rfl (Conv.of rfl)) rfl ?_
        show AV.v false = _
        have h' : decide (a[k] = b[k]) = false := by simpa using h
        rw [hall, hs, h', Bool.false_and]
      · refine aW ?_
        first | refine aS (aR ?_) | refine aS (aS (aR ?_)) | refine aR ?_ | refine aS (aS (aS (aR ?_)))
        first | refine oC (oM rfl (Conv.of rfl) rfl) ?_ | refine oC (op_mvl rfl rfl rfl rfl) ?_ | refine oC (op_mvo rfl rfl rfl rfl) ?_
        refine oC (oP rfl rfl rfl (by omega)) ?_
        first | refine oC (oA rfl (Conv.of rfl) rfl) ?_ | refine oC (op_asl rfl rfl rfl rfl) ?_ | refine oC (op_aso rfl rfl rfl rfl) ?_
        refine oN ?_
        have h' : decide (a[k] = b[k]) = true := by simpa using h
        repeat first | refine nS ?_ | refine nB ?_
        exact ⟨n - 1, _, by omega, ⟨k + 1, by omega, by rw [hall, hs, h', Bool.true_and], rfl⟩, Le.mk rfl (tle rfl (rfl) rfl (tle rfl (rfl) rfl (tle rfl (rfl) rfl tln))) oln noS⟩
    · refine aE ?_
      repeat refine ex_seq ?_
      refine eB ?_
      have hk : a.length ≤ k := by simpa using h
      first | refine aS (aR ?_) | refine aS (aS (aR ?_)) | refine aR ?_ | refine aS (aS (aS (aR ?_)))
      refine oC (oA rfl (Conv.of rfl) rfl) ?_
      refine oN ?_
      refine aT ?_
      repeat first | refine rS ?_ | refine rB ?_
      refine finP (.v rfl (Conv.of rfl)) rfl ?_
      show AV.v true = _
      rw [hall, drop_end hk, drop_end (by omega : b.length ≤ k)]
      simp
theorem lwVote_ct (a b : Vote) : CtP Tryz.prog 61 [.v a, .v b] (.v (decide (a = b))) := by
  refine Ct.intro Tryz.func61 rfl rfl ?_
  all_goals first | refine aS (aR ?_) | refine aS (aS (aR ?_)) | refine aR ?_ | refine aS (aS (aS (aR ?_)))
  all_goals first | refine oC (op_box (o := 0) ty38 rfl (Conv.of rfl) rfl rfl) ?_ | refine oC (op_boxm (o := 0) ty38 rfl rfl rfl rfl) ?_
  all_goals first | refine oC (op_box (o := 1) ty38 rfl (Conv.of rfl) rfl rfl) ?_ | refine oC (op_boxm (o := 1) ty38 rfl rfl rfl rfl) ?_
  all_goals refine oC (oA rfl (Conv.of rfl) rfl) ?_
  all_goals refine oN ?_
  all_goals first | refine aS (aR ?_) | refine aS (aS (aR ?_)) | refine aR ?_ | refine aS (aS (aS (aR ?_)))
  all_goals first | refine oC (oF f38_0 rfl rfl) ?_ | refine oC (oFR f38_0 rfl rfl) ?_ | refine oC (oFE f38_0 rfl rfl) ?_
  all_goals first | refine oC (oD ty3 rfl rfl rfl) ?_ | refine oC (oDR ty3 rfl rfl) ?_ | refine oC (op_lde ty3 rfl rfl (by assumption) rfl) ?_ | refine oC (op_ldl ty3 rfl rfl rfl) ?_ | refine oC (op_ldd ty3 rfl rfl rfl) ?_ | refine oC (op_ldde ty3 rfl rfl (by assumption) rfl) ?_
  all_goals first | refine oC (oF f38_0 rfl rfl) ?_ | refine oC (oFR f38_0 rfl rfl) ?_ | refine oC (oFE f38_0 rfl rfl) ?_
  all_goals first | refine oC (oD ty3 rfl rfl rfl) ?_ | refine oC (oDR ty3 rfl rfl) ?_ | refine oC (op_lde ty3 rfl rfl (by assumption) rfl) ?_ | refine oC (op_ldl ty3 rfl rfl rfl) ?_ | refine oC (op_ldd ty3 rfl rfl rfl) ?_ | refine oC (op_ldde ty3 rfl rfl (by assumption) rfl) ?_
  all_goals refine oC (op_eql rfl rfl rfl) ?_
  all_goals first | refine oC (oM rfl (Conv.of rfl) rfl) ?_ | refine oC (op_mvl rfl rfl rfl rfl) ?_ | refine oC (op_mvo rfl rfl rfl rfl) ?_
  all_goals first | refine g_lit (t := 10) (b := true) rfl ?_ | refine g_lit (t := 10) (b := false) rfl ?_ | refine g_ulit (t := 10) rfl ?_ | refine g_split (t := 10) rfl (fun h => ?_) (fun h => ?_)
  all_goals first | refine oC (gF rfl rfl rfl rfl rfl) ?_ | refine oC (g_und rfl rfl rfl) ?_ | refine oC (gN rfl rfl rfl (oF f38_1 rfl rfl)) ?_ | refine oC (gN rfl rfl rfl (oFR f38_1 rfl rfl)) ?_ | refine oC (gN rfl rfl rfl (oFE f38_1 rfl rfl)) ?_
  all_goals first | refine oC (gF rfl rfl rfl rfl rfl) ?_ | refine oC (g_und rfl rfl rfl) ?_ | refine oC (gN rfl rfl rfl (oD ty27 rfl rfl rfl)) ?_ | refine oC (gN rfl rfl rfl (oDR ty27 rfl rfl)) ?_ | refine oC (gN rfl rfl rfl (op_lde ty27 rfl rfl (by assumption) rfl)) ?_ | refine oC (gN rfl rfl rfl (op_ldl ty27 rfl rfl rfl)) ?_ | refine oC (gN rfl rfl rfl (op_ldd ty27 rfl rfl rfl)) ?_ | refine oC (gN rfl rfl rfl (op_ldde ty27 rfl rfl (by assumption) rfl)) ?_
  all_goals first | refine oC (gF rfl rfl rfl rfl rfl) ?_ | refine oC (g_und rfl rfl rfl) ?_ | refine oC (gN rfl rfl rfl (oF f38_1 rfl rfl)) ?_ | refine oC (gN rfl rfl rfl (oFR f38_1 rfl rfl)) ?_ | refine oC (gN rfl rfl rfl (oFE f38_1 rfl rfl)) ?_
  all_goals first | refine oC (gF rfl rfl rfl rfl rfl) ?_ | refine oC (g_und rfl rfl rfl) ?_ | refine oC (gN rfl rfl rfl (oD ty27 rfl rfl rfl)) ?_ | refine oC (gN rfl rfl rfl (oDR ty27 rfl rfl)) ?_ | refine oC (gN rfl rfl rfl (op_lde ty27 rfl rfl (by assumption) rfl)) ?_ | refine oC (gN rfl rfl rfl (op_ldl ty27 rfl rfl rfl)) ?_ | refine oC (gN rfl rfl rfl (op_ldd ty27 rfl rfl rfl)) ?_ | refine oC (gN rfl rfl rfl (op_ldde ty27 rfl rfl (by assumption) rfl)) ?_
  all_goals first | refine oC (gF rfl rfl rfl rfl rfl) ?_ | refine oC (g_und rfl rfl rfl) ?_ | refine oC (gN rfl rfl rfl (oL fb115 (.cons rfl (Conv.of rfl) (.cons rfl (Conv.of rfl) (.nil _))) (lwSame_ct _ _) (aK rfl rfl (aK rfl rfl aK0)) rfl rfl)) ?_
  all_goals refine oC (oQ rfl rfl rfl rfl) ?_
  all_goals first | refine oC (oA rfl (Conv.of rfl) rfl) ?_ | refine oC (op_asl rfl rfl rfl rfl) ?_ | refine oC (op_aso rfl rfl rfl rfl) ?_
  all_goals refine oN ?_
  all_goals refine aT ?_
  all_goals refine finP (.v rfl (Conv.of rfl)) rfl ?_
  all_goals (obtain ⟨a1, a2⟩ := a; obtain ⟨b1, b2⟩ := b; simp_all [FV.av])
theorem lwHas_ct (l : List Vote) (v : Vote) : CtP Tryz.prog 13 [.v l, .v v] (.v (decide (v ∈ l))) := by
  refine Ct.intro Tryz.func13 rfl rfl ?_
  refine awp_bigL 0 rfl (fun hB => ?_)
  first | refine aS (aR ?_) | refine aS (aS (aR ?_)) | refine aR ?_ | refine aS (aS (aS (aR ?_)))
  first | refine oC (op_box (o := 0) ty38 rfl (Conv.of rfl) rfl rfl) ?_ | refine oC (op_boxm (o := 0) ty38 rfl rfl rfl rfl) ?_
  refine oC (oA rfl (Conv.of rfl) rfl) ?_
  refine oN ?_
  first | refine aS (aR ?_) | refine aS (aS (aR ?_)) | refine aR ?_ | refine aS (aS (aS (aR ?_)))
  refine oC (oA rfl (Conv.of rfl) rfl) ?_
  refine oN ?_
  first | refine aS (aB ?_) | refine aS (aS (aB ?_)) | refine aB ?_ | refine aS (aS (aS (aB ?_)))
  first | refine aS (awp_loop' (fun n s => ∃ (k : Nat), ∃ (hn : n + k = l.length), ∃ (hall : decide (v ∈ l) = decide (v ∈ l.drop k)), s = mkSt 18 [(0, .v l), (3, .box 0 (IsLens.whole Vote)), (5, .v (k : Int))] [(0, .cell v)]) (l.length) ⟨0, by omega, rfl, rfl⟩ (Le.mk rfl (tle rfl (rfl) rfl (tlb rfl rfl rfl (tle rfl (rfl) rfl tln))) (olk rfl (by first | exact bC | exact bA | exact obOkW rfl | exact obOkW0 | exact obOkN | exact obOkS rfl | exact bN | exact obOkS0 | trivial) oln) noS) ?_) | refine aS (aS (awp_loop' (fun n s => ∃ (k : Nat), ∃ (hn : n + k = l.length), ∃ (hall : decide (v ∈ l) = decide (v ∈ l.drop k)), s = mkSt 18 [(0, .v l), (3, .box 0 (IsLens.whole Vote)), (5, .v (k : Int))] [(0, .cell v)]) (l.length) ⟨0, by omega, rfl, rfl⟩ (Le.mk rfl (tle rfl (rfl) rfl (tlb rfl rfl rfl (tle rfl (rfl) rfl tln))) (olk rfl (by first | exact bC | exact bA | exact obOkW rfl | exact obOkW0 | exact obOkN | exact obOkS rfl | exact bN | exact obOkS0 | trivial) oln) noS) ?_)) | refine awp_loop' (fun n s => ∃ (k : Nat), ∃ (hn : n + k = l.length), ∃ (hall : decide (v ∈ l) = decide (v ∈ l.drop k)), s = mkSt 18 [(0, .v l), (3, .box 0 (IsLens.whole Vote)), (5, .v (k : Int))] [(0, .cell v)]) (l.length) ⟨0, by omega, rfl, rfl⟩ (Le.mk rfl (tle rfl (rfl) rfl (tlb rfl rfl rfl (tle rfl (rfl) rfl tln))) (olk rfl (by first | exact bC | exact bA | exact obOkW rfl | exact obOkW0 | exact obOkN | exact obOkS rfl | exact bN | exact obOkS0 | trivial) oln) noS) ?_ | refine aS (aS (aS (awp_loop' (fun n s => ∃ (k : Nat), ∃ (hn : n + k = l.length), ∃ (hall : decide (v ∈ l) = decide (v ∈ l.drop k)), s = mkSt 18 [(0, .v l), (3, .box 0 (IsLens.whole Vote)), (5, .v (k : Int))] [(0, .cell v)]) (l.length) ⟨0, by omega, rfl, rfl⟩ (Le.mk rfl (tle rfl (rfl) rfl (tlb rfl rfl rfl (tle rfl (rfl) rfl tln))) (olk rfl (by first | exact bC | exact bA | exact obOkW rfl | exact obOkW0 | exact obOkN | exact obOkS rfl | exact bN | exact obOkS0 | trivial) oln) noS) ?_)))
  rintro n s ⟨k, hn, hall, rfl⟩
  first | refine aS (aR ?_) | refine aS (aS (aR ?_)) | refine aR ?_ | refine aS (aS (aS (aR ?_)))
  first | refine oC (oM rfl (Conv.of rfl) rfl) ?_ | refine oC (op_mvl rfl rfl rfl rfl) ?_ | refine oC (op_mvo rfl rfl rfl rfl) ?_
  first | refine oC (oM rfl (Conv.of rfl) rfl) ?_ | refine oC (op_mvl rfl rfl rfl rfl) ?_ | refine oC (op_mvo rfl rfl rfl rfl) ?_
  first | refine oC (oE sl24 rfl rfl) ?_ | refine oC (oEA sl24 rfl rfl rfl) ?_
  refine oC (oLt rfl rfl rfl) ?_
  refine oN ?_
  first | refine aS (aC rfl (fun h => ?_) (fun h => ?_)) | refine aS (aS (aC rfl (fun h => ?_) (fun h => ?_))) | refine aC rfl (fun h => ?_) (fun h => ?_) | refine aS (aS (aS (aC rfl (fun h => ?_) (fun h => ?_))))
  · have hlt : k < l.length := by simpa using h
    have hx : l[k]? = some l[k] := List.getElem?_eq_getElem hlt
    have hs := mem_take_at (v := v) hx
    refine aW ?_
    first | refine aS (aB ?_) | refine aS (aS (aB ?_)) | refine aB ?_ | refine aS (aS (aS (aB ?_)))
    first | refine aS (dS ?_) | refine aS (aS (dS ?_)) | refine dS ?_ | refine aS (aS (aS (dS ?_)))
    first | refine dC (oM rfl (Conv.of rfl) rfl) ?_ | refine dC (op_mvl rfl rfl rfl rfl) ?_ | refine dC (op_mvo rfl rfl rfl rfl) ?_
    first | refine dC (oM rfl (Conv.of rfl) rfl) ?_ | refine dC (op_mvl rfl rfl rfl rfl) ?_ | refine dC (op_mvo rfl rfl rfl rfl) ?_
    first | refine dC (op_ix sl24 rfl rfl rfl (by omega) hx) ?_ | refine dC (op_ixA sl24 rfl rfl rfl rfl (by omega)) ?_
    first | refine dC (oD ty38 rfl rfl rfl) ?_ | refine dC (oDR ty38 rfl rfl) ?_ | refine dC (op_lde ty38 rfl rfl (by assumption) rfl) ?_ | refine dC (op_ldl ty38 rfl rfl rfl) ?_ | refine dC (op_ldd ty38 rfl rfl rfl) ?_ | refine dC (op_ldde ty38 rfl rfl (by assumption) rfl) ?_
    first | refine dC (oD ty38 rfl rfl rfl) ?_ | refine dC (oDR ty38 rfl rfl) ?_ | refine dC (op_lde ty38 rfl rfl (by assumption) rfl) ?_ | refine dC (op_ldl ty38 rfl rfl rfl) ?_ | refine dC (op_ldd ty38 rfl rfl rfl) ?_ | refine dC (op_ldde ty38 rfl rfl (by assumption) rfl) ?_
    refine dC (oL fb61 (.cons rfl (Conv.of rfl) (.cons rfl (Conv.of rfl) (.nil _))) (lwVote_ct _ _) (aK rfl rfl (aK rfl rfl aK0)) rfl rfl) ?_
    refine dr_nil mixed rfl ?_
    first | refine aS (aC rfl (fun h => ?_) (fun h => ?_)) | refine aS (aS (aC rfl (fun h => ?_) (fun h => ?_))) | refine aC rfl (fun h => ?_) (fun h => ?_) | refine aS (aS (aS (aC rfl (fun h => ?_) (fun h => ?_))))
    · first | refine aS (aR ?_) | refine aS (aS (aR ?_)) | refine aR ?_ | refine aS (aS (aS (aR ?_)))
      refine oC (oA rfl (Conv.of rfl) rfl) ?_
      refine oN ?_
      refine aT ?_
      repeat first | refine rS ?_ | refine rB ?_
      refine finP (.v rfl (Conv.of rfl)) rfl ?_
      show AV.v true = _
      rw [hall, hs, h, Bool.true_or]
    · refine aW ?_
      first | refine aS (aR ?_) | refine aS (aS (aR ?_)) | refine aR ?_ | refine aS (aS (aS (aR ?_)))
      first | refine oC (oM rfl (Conv.of rfl) rfl) ?_ | refine oC (op_mvl rfl rfl rfl rfl) ?_ | refine oC (op_mvo rfl rfl rfl rfl) ?_
      refine oC (oP rfl rfl rfl (by omega)) ?_
      first | refine oC (oA rfl (Conv.of rfl) rfl) ?_ | refine oC (op_asl rfl rfl rfl rfl) ?_ | refine oC (op_aso rfl rfl rfl rfl) ?_
      refine oN ?_
      repeat first | refine nS ?_ | refine nB ?_
      exact ⟨n - 1, _, by omega, ⟨k + 1, by omega, by rw [hall, hs, h, Bool.false_or], rfl⟩, Le.mk rfl (tle rfl (rfl) rfl (tlb rfl rfl rfl (tle rfl (rfl) rfl tln))) (olk rfl (by first | exact bC | exact bA | exact obOkW rfl | exact obOkW0 | exact obOkN | exact obOkS rfl | exact bN | exact obOkS0 | trivial) oln) noS⟩
  · refine aE ?_
    repeat refine ex_seq ?_
    refine eB ?_
    have hk : l.length ≤ k := by simpa using h
    first | refine aS (aR ?_) | refine aS (aS (aR ?_)) | refine aR ?_ | refine aS (aS (aS (aR ?_)))
    refine oC (oA rfl (Conv.of rfl) rfl) ?_
    refine oN ?_
    refine aT ?_
    repeat first | refine rS ?_ | refine rB ?_
    refine finP (.v rfl (Conv.of rfl)) rfl ?_
    show AV.v false = _
    rw [hall, drop_end hk]; simp
end Go.Proofs.YtmhmeppocbcmeaaGreat

/- Plays, as both have them. -/
set_option linter.unusedVariables false
set_option linter.unusedSimpArgs false
namespace Go.Proofs.YtmhmeppocbcmeaaGreat
open Go Go.Wt
/-- A play, with its answer. -/
def playR (bad : Int) (evs : List Evt) : Wrld × Bool := if within bad 0 4 && decide (evs.length ≤ 70) then (playF bad evs, true) else (Wrld.zero, false)
theorem big4 {w : Wrld} (h : w.nodes.length = 4) : w.nodes.length ≤ big := by rw [h]; decide
end Go.Proofs.YtmhmeppocbcmeaaGreat

/- The program's words for outsiders. -/
set_option linter.unusedVariables false
set_option linter.unusedSimpArgs false
namespace Go.Proofs.YtmhmeppocbcmeaaGreat
open Go Go.Wt
theorem gdOf {l : List Vote} (ho : votesOk l = true) (hl : l.length ≤ 1000) : Gd l := ⟨hl, votesOk_mem ho⟩
end Go.Proofs.YtmhmeppocbcmeaaGreat

/- Worlds in form; what happens in a world, for outsiders. -/
set_option linter.unusedVariables false
set_option linter.unusedSimpArgs false
namespace Go.Proofs.YtmhmeppocbcmeaaGreat
open Go Go.Wt
theorem shown_w_ct (v : Vote) (hO : Nat → Wt.Obj) (w : Wrld) (ho : hO 0 = .cell w) (hf : hO 9 = .free) (hH : ∀ o, obOk (pH hO) (hO o)) :
    Ct Tryz.prog 46 [.box 0 (IsLens.whole Wrld), .v v] hO (fun r1 h1 => r1 = .v (shownB w v) ∧ h1 = hO) := by
  refine Ct.intro Tryz.func46 rfl rfl ?_
  all_goals refine aS (aR ?_)
  all_goals refine oC (op_box (o := 9) ty38 rfl (Conv.of rfl) hf rfl) ?_
  all_goals refine oC (oA rfl (Conv.of rfl) rfl) ?_
  all_goals refine oN ?_
  all_goals refine aS (dS ?_)
  all_goals refine dC (oF f38_0 rfl rfl) ?_
  all_goals refine dC (oD ty3 rfl rfl rfl) ?_
  all_goals refine dC (oM rfl (Conv.of rfl) rfl) ?_
  all_goals refine dC (oNB rfl rfl) ?_
  all_goals refine dC (oF f26_3 rfl rfl) ?_
  all_goals refine dC (oD ty3 rfl ho rfl) ?_
  all_goals refine dC (op_eql rfl rfl rfl) ?_
  all_goals refine dC (oM rfl (Conv.of rfl) rfl) ?_
  all_goals refine dr_split (t := 12) rfl (fun h => ?_) (fun h => ?_)
  all_goals first | refine dC (gF rfl rfl rfl rfl rfl) ?_ | refine dC (gN rfl rfl rfl (oM rfl (Conv.of rfl) rfl)) ?_
  all_goals first | refine dC (gF rfl rfl rfl rfl rfl) ?_ | refine dC (gN rfl rfl rfl (oNB rfl rfl)) ?_
  all_goals first | refine dC (gF rfl rfl rfl rfl rfl) ?_ | refine dC (gN rfl rfl rfl (oF f26_2 rfl rfl)) ?_
  all_goals first | refine dC (gF rfl rfl rfl rfl rfl) ?_ | refine dC (gN rfl rfl rfl (oD ty24 rfl ho rfl)) ?_
  all_goals first | refine dC (gF rfl rfl rfl rfl rfl) ?_ | refine dC (gN rfl rfl rfl (oD ty38 rfl rfl rfl)) ?_
  all_goals first | refine dC (gF rfl rfl rfl rfl rfl) ?_ | refine dC (gN rfl rfl rfl (oL fb103 (.cons rfl (Conv.of rfl) (.cons rfl (Conv.of rfl) (.nil _))) (has_ct _ _) (aK rfl rfl (aK rfl rfl aK0)) rfl rfl)) ?_
  all_goals refine dC (oQ rfl rfl rfl rfl) ?_
  all_goals refine dC (oA rfl (Conv.of rfl) rfl) ?_
  all_goals refine dr_nil mixed rfl ?_
  all_goals refine aT ?_
  all_goals refine finF (.v rfl (Conv.of rfl)) rfl ?_ (by intro o ho; by_cases e : o = 9 <;> first | (exfalso; subst e; rw [hf] at ho; exact absurd ho (by decide)) | simp only [st0, St.upd, lk, orr, if_neg e]) hH
  all_goals (simp_all [FV.av, shownB])
theorem okFn_ct (v : Vote) (hO : Nat → Wt.Obj) (w : Wrld) (ho : hO 0 = .cell w) (hf : hO 8 = .free) (hf9 : hO 9 = .free) (hH : ∀ o, obOk (pH hO) (hO o)) :
    Ct Tryz.prog 101 [.v v, .box 0 (IsLens.whole Wrld)] hO (fun r1 h1 => r1 = .v (!shownB w v) ∧ h1 = hO) := by
  refine Ct.intro Tryz.func101 rfl rfl ?_
  refine aS (aR ?_)
  refine oC (op_box (o := 8) ty38 rfl (Conv.of rfl) hf rfl) ?_
  refine oC (oA rfl (Conv.of rfl) rfl) ?_
  refine oN ?_
  have hH' : ∀ o, obOk (pH (fun o => orr (lk [(8, Wt.Obj.cell v)] o) (hO o))) (orr (lk [(8, Wt.Obj.cell v)] o) (hO o)) := fun o => by
    by_cases e : o = 8
    · subst e; exact plain_refs _
    · have := hH o
      simp only [lk, if_neg e, orr]
      cases hx : hO o with
      | free => trivial
      | dead => trivial
      | cell x =>
        rw [hx] at this
        intro o' h'
        have h2 := this o' h'
        unfold pH at h2 ⊢
        by_cases e' : o' = 8
        · subst e'; rfl
        · simpa [lk, e', orr] using h2
      | arr xs =>
        rw [hx] at this
        intro x hx' o' h'
        have h2 := this x hx' o' h'
        unfold pH at h2 ⊢
        by_cases e' : o' = 8
        · subst e'; rfl
        · simpa [lk, e', orr] using h2
  refine aS (aR ?_)
  refine oC (oD ty38 rfl rfl rfl) ?_
  refine awpOps_callH (h := fun o => orr (lk [(8, Wt.Obj.cell v)] o) (hO o)) rfl (fb46) (.cons rfl (Conv.of rfl) (.cons rfl (Conv.of rfl) (.nil _))) rfl (shown_w_ct v _ w (by simpa [lk, orr] using ho) (by simpa [lk, orr] using hf9) hH') (Hand.none (Hand.l1 ⟨rfl, fun o ho' => by simp [AV.refs] at ho'; subst ho'; simp [pH, lk, orr, ho, isFree]⟩ (Hand.l1 (Hand.of rfl rfl) Hand.l0))) hH' rfl rfl ?_
  refine oC (op_not rfl rfl) ?_
  refine oC (oA rfl (Conv.of rfl) rfl) ?_
  refine oN ?_
  refine aT ?_
  refine finF (.v rfl (Conv.of rfl)) rfl rfl (by intro o ho'; by_cases e : o = 8 <;> first | (exfalso; subst e; rw [hf] at ho'; exact absurd ho' (by decide)) | simp only [st0, St.upd, lk, orr, if_neg e]) hH
set_option maxHeartbeats 2000000 in
theorem worldOk_ct (w : Wrld) : CtP Tryz.prog 43 [.v w] (.v (worldOk w)) := by
  refine Ct.intro Tryz.func43 rfl rfl ?_
  all_goals refine aS (aR ?_)
  all_goals refine oC (op_box (o := 0) ty26 rfl (Conv.of rfl) rfl rfl) ?_
  all_goals refine oC (oA rfl (Conv.of rfl) rfl) ?_
  all_goals refine oN ?_
  refine aS (aST (s' := mkSt 63 [(1, .box 0 (IsLens.whole Wrld)), (32, .v (!worldOk0 w))] [(0, .cell w)]) ?_ ?_)
  · all_goals refine aR ?_
    all_goals refine oC (oF f26_0 rfl rfl) ?_
    all_goals refine oC (oD ty3 rfl rfl rfl) ?_
    all_goals refine oC (oL fb98 (.cons rfl (Conv.of rfl) (.cons rfl (Conv.of rfl) (.cons rfl (Conv.of rfl) (.nil _)))) (within_ct _ _ _) (aK rfl rfl (aK rfl rfl (aK rfl rfl aK0))) rfl rfl) ?_
    all_goals refine oC (op_not rfl rfl) ?_
    all_goals refine oC (oM rfl (Conv.of rfl) rfl) ?_
    all_goals refine g_split (t := 9) rfl (fun h => ?_) (fun h => ?_)
    all_goals first | refine oC (gF rfl rfl rfl rfl rfl) ?_ | refine oC (gN rfl rfl rfl (oF f26_3 rfl rfl)) ?_
    all_goals first | refine oC (gF rfl rfl rfl rfl rfl) ?_ | refine oC (gN rfl rfl rfl (oD ty3 rfl rfl rfl)) ?_
    all_goals first | refine oC (gF rfl rfl rfl rfl rfl) ?_ | refine oC (gN rfl rfl rfl (oL fb98 (.cons rfl (Conv.of rfl) (.cons rfl (Conv.of rfl) (.cons rfl (Conv.of rfl) (.nil _)))) (within_ct _ _ _) (aK rfl rfl (aK rfl rfl (aK rfl rfl aK0))) rfl rfl)) ?_
    all_goals first | refine oC (gF rfl rfl rfl rfl rfl) ?_ | refine oC (gN rfl rfl rfl (op_not rfl rfl)) ?_
    all_goals refine oC (oQ rfl rfl rfl rfl) ?_
    all_goals refine oC (oM rfl (Conv.of rfl) rfl) ?_
    all_goals first | refine g_lit (t := 15) (b := true) rfl ?_ | refine g_split (t := 15) rfl (fun h => ?_) (fun h => ?_)
    all_goals first | refine oC (gF rfl rfl rfl rfl rfl) ?_ | refine oC (gN rfl rfl rfl (oF f26_1 rfl rfl)) ?_
    all_goals first | refine oC (gF rfl rfl rfl rfl rfl) ?_ | refine oC (gN rfl rfl rfl (oD ty23 rfl rfl rfl)) ?_
    all_goals first | refine oC (gF rfl rfl rfl rfl rfl) ?_ | refine oC (gN rfl rfl rfl (oE sl23 rfl rfl)) ?_
    all_goals first | refine oC (gF rfl rfl rfl rfl rfl) ?_ | refine oC (gN rfl rfl rfl (op_neq rfl rfl rfl)) ?_
    all_goals refine oC (oQ rfl rfl rfl rfl) ?_
    all_goals refine oC (oM rfl (Conv.of rfl) rfl) ?_
    all_goals first | refine g_lit (t := 21) (b := true) rfl ?_ | refine g_split (t := 21) rfl (fun h => ?_) (fun h => ?_)
    all_goals first | refine oC (gF rfl rfl rfl rfl rfl) ?_ | refine oC (gN rfl rfl rfl (oF f26_2 rfl rfl)) ?_
    all_goals first | refine oC (gF rfl rfl rfl rfl rfl) ?_ | refine oC (gN rfl rfl rfl (oD ty24 rfl rfl rfl)) ?_
    all_goals first | refine oC (gF rfl rfl rfl rfl rfl) ?_ | refine oC (gN rfl rfl rfl (oE sl24 rfl rfl)) ?_
    all_goals first | refine oC (gF rfl rfl rfl rfl rfl) ?_ | refine oC (gN rfl rfl rfl (op_gtr rfl rfl rfl)) ?_
    all_goals refine oC (oQ rfl rfl rfl rfl) ?_
    all_goals refine oC (oM rfl (Conv.of rfl) rfl) ?_
    all_goals first | refine g_lit (t := 27) (b := true) rfl ?_ | refine g_split (t := 27) rfl (fun h => ?_) (fun h => ?_)
    all_goals first | refine oC (gF rfl rfl rfl rfl rfl) ?_ | refine oC (gN rfl rfl rfl (oF f26_2 rfl rfl)) ?_
    all_goals first | refine oC (gF rfl rfl rfl rfl rfl) ?_ | refine oC (gN rfl rfl rfl (oD ty24 rfl rfl rfl)) ?_
    all_goals first | refine oC (gF rfl rfl rfl rfl rfl) ?_ | refine oC (gN rfl rfl rfl (oL fb99 (.cons rfl (Conv.of rfl) (.nil _)) (votesOk_ct _) (aK rfl rfl aK0) rfl rfl)) ?_
    all_goals first | refine oC (gF rfl rfl rfl rfl rfl) ?_ | refine oC (gN rfl rfl rfl (op_not rfl rfl)) ?_
    all_goals refine oC (oQ rfl rfl rfl rfl) ?_
    all_goals refine oN ?_
    all_goals exact Le.mk rfl (tlb rfl rfl rfl (tle rfl (by (simp_all [worldOk0] <;> omega)) rfl tln)) (olk rfl (by exact bC) oln) noS
  refine aC rfl (fun h => ?_) (fun h => ?_)
  · all_goals refine aS (aR ?_)
    all_goals refine oC (oA rfl (Conv.of rfl) rfl) ?_
    all_goals refine oN ?_
    refine aT ?_
    repeat first | refine rS ?_ | refine rB ?_
    refine finP (.v rfl (Conv.of rfl)) rfl ?_
    show AV.v false = _
    simp [worldOk, not_t h]
  · have h0 := not_f h
    have heq : worldOk w = nodesOkFrom w w.nodes 0 := by rw [worldOk, h0, Bool.true_and]
    refine aW ?_
    all_goals refine aS (aS (aR ?_))
    all_goals refine oC (oF f26_1 rfl rfl) ?_
    all_goals refine oC (oD ty23 rfl rfl rfl) ?_
    refine awpOps_bigL 34 rfl (fun hB => ?_)
    all_goals refine oC (oE sl23 rfl rfl) ?_
    all_goals refine oC (oM rfl (Conv.of rfl) rfl) ?_
    all_goals refine oN ?_
    refine aB ?_
    refine awp_loop' (fun n_ s => ∃ (k : Nat), ∃ (hn : n_ + k = w.nodes.length), ∃ (hall : worldOk w = nodesOkFrom w (w.nodes.drop k) k), s = mkSt 63 [(1, .box 0 (IsLens.whole Wrld)), (34, .v w.nodes), (35, .v (w.nodes.length : Int)), (36, .v (k : Int))] [(0, .cell w)]) (w.nodes.length) ⟨0, by omega, heq, rfl⟩ (Le.mk rfl (tlb rfl rfl rfl (tle rfl (rfl) rfl (tle rfl (rfl) rfl (tle rfl (rfl) rfl tln)))) (olk rfl (by exact bC) oln) noS) ?_
    rintro n_ s ⟨k, hn, hall, rfl⟩
    all_goals refine aS (aR ?_)
    all_goals refine oC (oLt rfl rfl rfl) ?_
    all_goals refine oN ?_
    refine aS (aC rfl (fun h => ?_) (fun h => ?_))
    · have hlt : k < w.nodes.length := by simpa using h
      have hx : w.nodes[k]? = some w.nodes[k] := List.getElem?_eq_getElem hlt
      generalize w.nodes[k] = a at hx
      have hs := nodesOk_drop (w := w) hx
      refine aW ?_
      refine aS (aB ?_)
      all_goals refine aS (aR ?_)
      all_goals refine oC (oM rfl (Conv.of rfl) rfl) ?_
      all_goals refine oC (op_ix sl23 rfl rfl rfl (by omega) hx) ?_
      all_goals refine oC (oDR ty90 rfl rfl) ?_
      all_goals refine oC (oX (o := 1) z90 rfl rfl) ?_
      all_goals refine oC (oA rfl (Conv.of rfl) rfl) ?_
      all_goals refine oC (op_st ty90 rfl rfl (Conv.of rfl) rfl) ?_
      all_goals refine oN ?_
      refine aS (aST (s' := mkSt 63 [(1, .box 0 (IsLens.whole Wrld)), (4, .box 1 (IsLens.whole Nod)), (34, .v w.nodes), (35, .v (w.nodes.length : Int)), (36, .v (k : Int)), (57, .v (!(nodeOk a && decide (a.id = (k : Int) + 1) && decide (a.epoch = w.epoch))))] [(0, .cell w), (1, .cell a)]) ?_ ?_)
      · all_goals refine aR ?_
        all_goals refine oC (oD ty90 rfl rfl rfl) ?_
        all_goals refine oC (oL fb100 (.cons rfl (Conv.of rfl) (.nil _)) (nodeOk_ct _) (aK rfl rfl aK0) rfl rfl) ?_
        all_goals refine oC (op_not rfl rfl) ?_
        all_goals refine oC (oM rfl (Conv.of rfl) rfl) ?_
        all_goals refine g_split (t := 44) rfl (fun h => ?_) (fun h => ?_)
        all_goals first | refine oC (gF rfl rfl rfl rfl rfl) ?_ | refine oC (gN rfl rfl rfl (oF f90_0 rfl rfl)) ?_
        all_goals first | refine oC (gF rfl rfl rfl rfl rfl) ?_ | refine oC (gN rfl rfl rfl (oD ty3 rfl rfl rfl)) ?_
        all_goals first | refine oC (gF rfl rfl rfl rfl rfl) ?_ | refine oC (gN rfl rfl rfl (oM rfl (Conv.of rfl) rfl)) ?_
        all_goals first | refine oC (gF rfl rfl rfl rfl rfl) ?_ | refine oC (gN rfl rfl rfl (oP rfl rfl rfl (by omega))) ?_
        all_goals first | refine oC (gF rfl rfl rfl rfl rfl) ?_ | refine oC (gN rfl rfl rfl (op_neq rfl rfl rfl)) ?_
        all_goals refine oC (oQ rfl rfl rfl rfl) ?_
        all_goals refine oC (oM rfl (Conv.of rfl) rfl) ?_
        all_goals first | refine g_lit (t := 51) (b := true) rfl ?_ | refine g_split (t := 51) rfl (fun h => ?_) (fun h => ?_)
        all_goals first | refine oC (gF rfl rfl rfl rfl rfl) ?_ | refine oC (gN rfl rfl rfl (oF f90_1 rfl rfl)) ?_
        all_goals first | refine oC (gF rfl rfl rfl rfl rfl) ?_ | refine oC (gN rfl rfl rfl (oD ty3 rfl rfl rfl)) ?_
        all_goals first | refine oC (gF rfl rfl rfl rfl rfl) ?_ | refine oC (gN rfl rfl rfl (oF f26_0 rfl rfl)) ?_
        all_goals first | refine oC (gF rfl rfl rfl rfl rfl) ?_ | refine oC (gN rfl rfl rfl (oD ty3 rfl rfl rfl)) ?_
        all_goals first | refine oC (gF rfl rfl rfl rfl rfl) ?_ | refine oC (gN rfl rfl rfl (op_neq rfl rfl rfl)) ?_
        all_goals refine oC (oQ rfl rfl rfl rfl) ?_
        all_goals refine oN ?_
        all_goals exact Le.mk rfl (tlb rfl rfl rfl (tlb rfl rfl rfl (tle rfl (rfl) rfl (tle rfl (rfl) rfl (tle rfl (rfl) rfl (tle rfl (by (simp_all; try rfl)) rfl tln)))))) (olk rfl (by exact bC) (olk rfl (by exact bC) oln)) noS
      refine aC rfl (fun h2 => ?_) (fun h2 => ?_)
      · all_goals refine aS (aR ?_)
        all_goals refine oC (oA rfl (Conv.of rfl) rfl) ?_
        all_goals refine oN ?_
        refine aT ?_
        repeat first | refine rS ?_ | refine rB ?_
        refine finP (.v rfl (Conv.of rfl)) rfl ?_
        show AV.v false = _
        rw [hall, hs, nodeIn, not_t h2, Bool.false_and, Bool.false_and]
      · have h2' := not_f h2
        refine aW ?_
        all_goals refine aS (aR ?_)
        all_goals refine oC (oF f90_3 rfl rfl) ?_
        all_goals refine oC (oD ty24 rfl rfl rfl) ?_
        all_goals refine oC (op_mf (f := 101) .nil (.cons (r := .box 0 (IsLens.whole Wrld)) rfl (Conv.of rfl) .nil) rfl) ?_
        all_goals refine awpOps_callH rfl (fb44) (.cons rfl (Conv.of rfl) (.cons rfl (Conv.of rfl) (.nil _))) rfl (containsV_ct _ _ [] [.box 0 (IsLens.whole Wrld)] _ (fun v => !shownB w v) (fb101) (fun x hx => okFn_ct x _ w rfl rfl rfl (fun o => by by_cases e : o = 0 <;> by_cases e1 : o = 1 <;> simp [mkSt, st0, St.upd, lk, lk0, orr, e, e1, obOk, noObj] <;> exact plain_refs _)) (by intro z hz; simp [avs, FV.av] at hz; subst hz; exact ⟨rfl, fun o ho => by simp [AV.refs] at ho; subst ho; rfl⟩) (fun o => by by_cases e : o = 0 <;> by_cases e1 : o = 1 <;> simp [mkSt, st0, St.upd, lk, lk0, orr, e, e1, obOk, noObj] <;> exact plain_refs _)) (Hand.none (Hand.l1 (Hand.of rfl rfl) (Hand.l1 ⟨rfl, fun o ho => by simp [AV.refs, FV.refs] at ho; subst ho; rfl⟩ Hand.l0))) (fun o => by by_cases e : o = 0 <;> by_cases e1 : o = 1 <;> simp [mkSt, st0, St.upd, lk, lk0, orr, e, e1, obOk, noObj] <;> exact plain_refs _) rfl rfl ?_
        all_goals refine oN ?_
        refine aC rfl (fun h3 => ?_) (fun h3 => ?_)
        · all_goals refine aS (aR ?_)
          all_goals refine oC (oA rfl (Conv.of rfl) rfl) ?_
          all_goals refine oN ?_
          refine aT ?_
          repeat first | refine rS ?_ | refine rB ?_
          refine finP (.v rfl (Conv.of rfl)) rfl ?_
          show AV.v false = _
          rw [hall, hs, nodeIn, h3, Bool.not_true, Bool.and_false, Bool.false_and]
        · refine aW ?_
          all_goals refine aR ?_
          all_goals refine oC (oP rfl rfl rfl (by omega)) ?_
          all_goals refine oC (oM rfl (Conv.of rfl) rfl) ?_
          all_goals refine oN ?_
          repeat first | refine nS ?_ | refine nB ?_
          exact ⟨n_ - 1, _, by omega, ⟨k + 1, by omega, by rw [hall, hs, nodeIn, h2', h3]; rfl, rfl⟩, Le.mk rfl (tlb rfl rfl rfl (tle rfl (rfl) rfl (tle rfl (rfl) rfl (tle rfl (rfl) rfl tln)))) (olk rfl (by exact bC) oln) noS⟩
    · refine aE ?_
      repeat refine ex_seq ?_
      refine eB ?_
      have hk : w.nodes.length ≤ k := by simpa using h
      all_goals refine aS (aR ?_)
      all_goals refine oC (oA rfl (Conv.of rfl) rfl) ?_
      all_goals refine oN ?_
      refine aT ?_
      repeat first | refine rS ?_ | refine rB ?_
      refine finP (.v rfl (Conv.of rfl)) rfl ?_
      show AV.v true = _
      rw [hall, drop_end hk]; rfl
def worldDoR (w : Wrld) (e : Evt) : Wrld := if worldOk w then doF w e else Wrld.zero
end Go.Proofs.YtmhmeppocbcmeaaGreat

/- The reference: votes, nodes and worlds in form; copies. -/
set_option linter.unusedVariables false
set_option linter.unusedSimpArgs false
namespace Go.Proofs.YtmhmeppocbcmeaaGreat
open Go Go.Wt
theorem sVotesOk_ct (l : List Vote) : CtP Tryz.prog 51 [.v l] (.v (votesOk l)) := by
  refine Ct.intro Tryz.func51 rfl rfl ?_
  refine awp_bigL 0 rfl (fun hB => ?_)
  all_goals refine aS (aR ?_)
  all_goals refine oC (oA rfl (Conv.of rfl) rfl) ?_
  all_goals refine oN ?_
  all_goals refine aS (aS (aR ?_))
  all_goals refine oC (oA rfl (Conv.of rfl) rfl) ?_
  all_goals refine oN ?_
  refine aB ?_
  refine awp_loop' (fun n_ s => ∃ (k : Nat), ∃ (hn : n_ + k = l.length), ∃ (hall : votesOk l = votesOkFrom (l.take k) (l.drop k)), s = mkSt 26 [(0, .v l), (3, .v (k : Int))] []) (l.length) ⟨0, by omega, rfl, rfl⟩ (Le.mk rfl (tle rfl (rfl) rfl (tle rfl (rfl) rfl tln)) oln noS) ?_
  rintro n_ s ⟨k, hn, hall, rfl⟩
  all_goals refine aS (aS (aR ?_))
  all_goals refine oC (oM rfl (Conv.of rfl) rfl) ?_
  all_goals refine oC (oM rfl (Conv.of rfl) rfl) ?_
  all_goals refine oC (oE sl24 rfl rfl) ?_
  all_goals refine oC (oLt rfl rfl rfl) ?_
  all_goals refine oN ?_
  refine aC rfl (fun h => ?_) (fun h => ?_)
  · have hlt : k < l.length := by simpa using h
    have hx : l[k]? = some l[k] := List.getElem?_eq_getElem hlt
    generalize l[k] = x at hx
    have hs := votesOk_drop hx
    refine aW ?_
    refine aS (aB ?_)
    refine aST (s' := mkSt 26 [(0, .v l), (3, .v (k : Int)), (25, .v (!(voteOk x && !decide (x ∈ l.take k))))] []) ?_ ?_
    · all_goals refine dS ?_
      all_goals refine dC (oM rfl (Conv.of rfl) rfl) ?_
      all_goals refine dC (oM rfl (Conv.of rfl) rfl) ?_
      all_goals refine dC (op_ix sl24 rfl rfl rfl (by omega) hx) ?_
      all_goals refine dC (oDR ty38 rfl rfl) ?_
      all_goals refine dC (oL fb108 (.cons rfl (Conv.of rfl) (.nil _)) (l3Vote_ct _) (aK rfl rfl aK0) rfl rfl) ?_
      all_goals refine dC (op_not rfl rfl) ?_
      all_goals refine dC (oM rfl (Conv.of rfl) rfl) ?_
      all_goals refine dr_split (t := 16) rfl (fun h => ?_) (fun h => ?_)
      all_goals first | refine dC (gF rfl rfl rfl rfl rfl) ?_ | refine dC (gN rfl rfl rfl (oM rfl (Conv.of rfl) rfl)) ?_
      all_goals first | refine dC (gF rfl rfl rfl rfl rfl) ?_ | refine dC (gN rfl rfl rfl (oM rfl (Conv.of rfl) rfl)) ?_
      all_goals first | refine dC (gF rfl rfl rfl rfl rfl) ?_ | refine dC (gN rfl rfl rfl (op_slh sl24 rfl rfl rfl ⟨by omega, by omega⟩)) ?_
      all_goals first | refine dC (gF rfl rfl rfl rfl rfl) ?_ | refine dC (gN rfl rfl rfl (oM rfl (Conv.of rfl) rfl)) ?_
      all_goals first | refine dC (gF rfl rfl rfl rfl rfl) ?_ | refine dC (gN rfl rfl rfl (oM rfl (Conv.of rfl) rfl)) ?_
      all_goals first | refine dC (gF rfl rfl rfl rfl rfl) ?_ | refine dC (gN rfl rfl rfl (op_ix sl24 rfl rfl rfl (by omega) hx)) ?_
      all_goals first | refine dC (gF rfl rfl rfl rfl rfl) ?_ | refine dC (gN rfl rfl rfl (oDR ty38 rfl rfl)) ?_
      all_goals first | refine dC (gF rfl rfl rfl rfl rfl) ?_ | refine dC (gN rfl rfl rfl (oL fb106 (.cons rfl (Conv.of rfl) (.cons rfl (Conv.of rfl) (.nil _))) (l3Has_ct _ _) (aK rfl rfl (aK rfl rfl aK0)) rfl rfl)) ?_
      all_goals refine dC (oQ rfl rfl rfl rfl) ?_
      all_goals refine dr_nil mixed rfl ?_
      all_goals exact Le.mk rfl (tle rfl (rfl) rfl (tle rfl (rfl) rfl (tle rfl (by (clear hall hs; simp_all)) rfl tln))) oln noS
    refine aC rfl (fun h => ?_) (fun h => ?_)
    · all_goals refine aS (aR ?_)
      all_goals refine oC (oA rfl (Conv.of rfl) rfl) ?_
      all_goals refine oN ?_
      refine aT ?_
      repeat first | refine rS ?_ | refine rB ?_
      refine finP (.v rfl (Conv.of rfl)) rfl ?_
      show AV.v false = _
      rw [hall, hs, not_t h, Bool.false_and]
    · refine aW ?_
      all_goals refine aR ?_
      all_goals refine oC (oM rfl (Conv.of rfl) rfl) ?_
      all_goals refine oC (oP rfl rfl rfl (by omega)) ?_
      all_goals refine oC (oA rfl (Conv.of rfl) rfl) ?_
      all_goals refine oN ?_
      repeat first | refine nS ?_ | refine nB ?_
      exact ⟨n_ - 1, _, by omega, ⟨k + 1, by omega, by rw [hall, hs, not_f h, Bool.true_and], rfl⟩, Le.mk rfl (tle rfl (rfl) rfl (tle rfl (rfl) rfl tln)) oln noS⟩
  · refine aE ?_
    repeat refine ex_seq ?_
    refine eB ?_
    have hk : l.length ≤ k := by simpa using h
    all_goals refine aS (aR ?_)
    all_goals refine oC (oA rfl (Conv.of rfl) rfl) ?_
    all_goals refine oN ?_
    refine aT ?_
    repeat first | refine rS ?_ | refine rB ?_
    refine finP (.v rfl (Conv.of rfl)) rfl ?_
    show AV.v true = _
    rw [hall, drop_end hk]; rfl
set_option maxHeartbeats 4000000 in
theorem sNodeOk_ct (n : Nod) : CtP Tryz.prog 52 [.v n] (.v (nodeOk n)) := by
  refine Ct.intro Tryz.func52 rfl rfl ?_
  all_goals refine aS (aR ?_)
  all_goals refine oC (op_box (o := 0) ty90 rfl (Conv.of rfl) rfl rfl) ?_
  all_goals refine oC (oA rfl (Conv.of rfl) rfl) ?_
  all_goals refine oN ?_
  refine aS (aST (s' := mkSt 66 [(1, .box 0 (IsLens.whole Nod)), (34, .v (!nodeOk0 n))] [(0, .cell n)]) ?_ ?_)
  · all_goals refine aR ?_
    all_goals refine oC (oF f90_0 rfl rfl) ?_
    all_goals refine oC (oD ty3 rfl rfl rfl) ?_
    all_goals refine oC (oL fb50 (.cons rfl (Conv.of rfl) (.cons rfl (Conv.of rfl) (.cons rfl (Conv.of rfl) (.nil _)))) (l6In_ct _ _ _) (aK rfl rfl (aK rfl rfl (aK rfl rfl aK0))) rfl rfl) ?_
    all_goals refine oC (op_not rfl rfl) ?_
    all_goals refine oC (oM rfl (Conv.of rfl) rfl) ?_
    all_goals refine g_split (t := 9) rfl (fun h => ?_) (fun h => ?_)
    all_goals first | refine oC (gF rfl rfl rfl rfl rfl) ?_ | refine oC (gN rfl rfl rfl (oF f90_1 rfl rfl)) ?_
    all_goals first | refine oC (gF rfl rfl rfl rfl rfl) ?_ | refine oC (gN rfl rfl rfl (oD ty3 rfl rfl rfl)) ?_
    all_goals first | refine oC (gF rfl rfl rfl rfl rfl) ?_ | refine oC (gN rfl rfl rfl (oL fb50 (.cons rfl (Conv.of rfl) (.cons rfl (Conv.of rfl) (.cons rfl (Conv.of rfl) (.nil _)))) (l6In_ct _ _ _) (aK rfl rfl (aK rfl rfl (aK rfl rfl aK0))) rfl rfl)) ?_
    all_goals first | refine oC (gF rfl rfl rfl rfl rfl) ?_ | refine oC (gN rfl rfl rfl (op_not rfl rfl)) ?_
    all_goals refine oC (oQ rfl rfl rfl rfl) ?_
    all_goals refine oC (oM rfl (Conv.of rfl) rfl) ?_
    all_goals first | refine g_lit (t := 15) (b := true) rfl ?_ | refine g_split (t := 15) rfl (fun h => ?_) (fun h => ?_)
    all_goals first | refine oC (gF rfl rfl rfl rfl rfl) ?_ | refine oC (gN rfl rfl rfl (oF f90_2 rfl rfl)) ?_
    all_goals first | refine oC (gF rfl rfl rfl rfl rfl) ?_ | refine oC (gN rfl rfl rfl (oD ty3 rfl rfl rfl)) ?_
    all_goals first | refine oC (gF rfl rfl rfl rfl rfl) ?_ | refine oC (gN rfl rfl rfl (oF f90_1 rfl rfl)) ?_
    all_goals first | refine oC (gF rfl rfl rfl rfl rfl) ?_ | refine oC (gN rfl rfl rfl (oD ty3 rfl rfl rfl)) ?_
    all_goals first | refine oC (gF rfl rfl rfl rfl rfl) ?_ | refine oC (gN rfl rfl rfl (oL fb50 (.cons rfl (Conv.of rfl) (.cons rfl (Conv.of rfl) (.cons rfl (Conv.of rfl) (.nil _)))) (l6In_ct _ _ _) (aK rfl rfl (aK rfl rfl (aK rfl rfl aK0))) rfl rfl)) ?_
    all_goals first | refine oC (gF rfl rfl rfl rfl rfl) ?_ | refine oC (gN rfl rfl rfl (op_not rfl rfl)) ?_
    all_goals refine oC (oQ rfl rfl rfl rfl) ?_
    all_goals refine oC (oM rfl (Conv.of rfl) rfl) ?_
    all_goals first | refine g_lit (t := 23) (b := true) rfl ?_ | refine g_split (t := 23) rfl (fun h => ?_) (fun h => ?_)
    all_goals first | refine oC (gF rfl rfl rfl rfl rfl) ?_ | refine oC (gN rfl rfl rfl (oF f90_3 rfl rfl)) ?_
    all_goals first | refine oC (gF rfl rfl rfl rfl rfl) ?_ | refine oC (gN rfl rfl rfl (oD ty24 rfl rfl rfl)) ?_
    all_goals first | refine oC (gF rfl rfl rfl rfl rfl) ?_ | refine oC (gN rfl rfl rfl (oE sl24 rfl rfl)) ?_
    all_goals first | refine oC (gF rfl rfl rfl rfl rfl) ?_ | refine oC (gN rfl rfl rfl (op_gtr rfl rfl rfl)) ?_
    all_goals refine oC (oQ rfl rfl rfl rfl) ?_
    all_goals refine oC (oM rfl (Conv.of rfl) rfl) ?_
    all_goals first | refine g_lit (t := 29) (b := true) rfl ?_ | refine g_split (t := 29) rfl (fun h => ?_) (fun h => ?_)
    all_goals first | refine oC (gF rfl rfl rfl rfl rfl) ?_ | refine oC (gN rfl rfl rfl (oF f90_3 rfl rfl)) ?_
    all_goals first | refine oC (gF rfl rfl rfl rfl rfl) ?_ | refine oC (gN rfl rfl rfl (oD ty24 rfl rfl rfl)) ?_
    all_goals first | refine oC (gF rfl rfl rfl rfl rfl) ?_ | refine oC (gN rfl rfl rfl (oL fb51 (.cons rfl (Conv.of rfl) (.nil _)) (sVotesOk_ct _) (aK rfl rfl aK0) rfl rfl)) ?_
    all_goals first | refine oC (gF rfl rfl rfl rfl rfl) ?_ | refine oC (gN rfl rfl rfl (op_not rfl rfl)) ?_
    all_goals refine oC (oQ rfl rfl rfl rfl) ?_
    all_goals refine oN ?_
    all_goals exact Le.mk rfl (tlb rfl rfl rfl (tle rfl (by (show AV.v _ = AV.v _; unfold nodeOk0; simp_all; try omega)) rfl tln)) (olk rfl (by exact bC) oln) noS
  refine aC rfl (fun h => ?_) (fun h => ?_)
  · all_goals refine aS (aR ?_)
    all_goals refine oC (oA rfl (Conv.of rfl) rfl) ?_
    all_goals refine oN ?_
    refine aT ?_
    repeat first | refine rS ?_ | refine rB ?_
    refine finP (.v rfl (Conv.of rfl)) rfl ?_
    show AV.v false = _
    rw [nodeOk, not_t h]; rfl
  · have h0 := not_f h
    have h0' := h0
    simp only [nodeOk0, Bool.and_eq_true] at h0'
    have hvo := votesOk_mem h0'.2
    have hall0 : nodeOk n = !(n.seen.any (late n)) := by rw [nodeOk, h0, Bool.true_and]
    refine aW ?_
    all_goals refine aS (aS (aR ?_))
    all_goals refine oC (oA rfl (Conv.of rfl) rfl) ?_
    all_goals refine oN ?_
    refine aB ?_
    refine awp_loop' (fun n_ s => ∃ (k : Nat), ∃ (hn : n_ + k = n.seen.length), ∃ (hall : nodeOk n = !((n.seen.drop k).any (late n))), s = mkSt 66 [(1, .box 0 (IsLens.whole Nod)), (3, .v (k : Int))] [(0, .cell n)]) (n.seen.length) ⟨0, by omega, hall0, rfl⟩ (Le.mk rfl (tlb rfl rfl rfl (tle rfl (rfl) rfl tln)) (olk rfl (by exact bC) oln) noS) ?_
    rintro n_ s ⟨k, hn, hall, rfl⟩
    all_goals refine aS (aS (aR ?_))
    all_goals refine oC (oM rfl (Conv.of rfl) rfl) ?_
    all_goals refine oC (oF f90_3 rfl rfl) ?_
    all_goals refine oC (oD ty24 rfl rfl rfl) ?_
    refine awpOps_bigL 37 rfl (fun hB => ?_)
    all_goals refine oC (oE sl24 rfl rfl) ?_
    all_goals refine oC (oLt rfl rfl rfl) ?_
    all_goals refine oN ?_
    refine aC rfl (fun h => ?_) (fun h => ?_)
    · have hlt : k < n.seen.length := by simpa using h
      have hx : n.seen[k]? = some n.seen[k] := List.getElem?_eq_getElem hlt
      generalize n.seen[k] = x at hx
      have hp := voteOk_pos (hvo x (List.mem_of_getElem? hx))
      have hcl := chainOk_len (voteOk_chain (hvo x (List.mem_of_getElem? hx)))
      have hd := drop_at hx
      have hy : x.chain[((x.chain.length : Int) - 1).toNat]? = some (x.chain[x.chain.length - 1]'(by omega)) := by
        rw [show ((x.chain.length : Int) - 1).toNat = x.chain.length - 1 by omega]; exact List.getElem?_eq_getElem (by omega)
      have hle : lastEp x.chain = (x.chain[x.chain.length - 1]'(by omega)).epoch := lastEp_get (List.getElem?_eq_getElem (by omega))
      generalize x.chain[x.chain.length - 1]'(by omega) = y at hy hle
      have hlate : late n x = (decide (x.by_ = n.id) && decide (n.voted < y.epoch)) := by unfold late; rw [hle]
      refine aW ?_
      refine aS (aB ?_)
      all_goals refine aS (aR ?_)
      all_goals refine oC (oF f90_3 rfl rfl) ?_
      all_goals refine oC (oD ty24 rfl rfl rfl) ?_
      all_goals refine oC (oM rfl (Conv.of rfl) rfl) ?_
      all_goals refine oC (op_ix sl24 rfl rfl rfl (by omega) hx) ?_
      all_goals refine oC (oDR ty38 rfl rfl) ?_
      all_goals refine oC (oX (o := 1) z38 rfl rfl) ?_
      all_goals refine oC (op_st ty38 rfl rfl (Conv.of rfl) rfl) ?_
      all_goals refine oN ?_
      refine aST (s' := mkSt 66 [(1, .box 0 (IsLens.whole Nod)), (3, .v (k : Int)), (65, .v (late n x))] [(0, .cell n)]) ?_ ?_
      · all_goals refine dS ?_
        all_goals refine dC (oF f38_0 rfl rfl) ?_
        all_goals refine dC (oD ty3 rfl rfl rfl) ?_
        all_goals refine dC (oF f90_0 rfl rfl) ?_
        all_goals refine dC (oD ty3 rfl rfl rfl) ?_
        all_goals refine dC (op_eql rfl rfl rfl) ?_
        all_goals refine dC (oM rfl (Conv.of rfl) rfl) ?_
        all_goals refine dr_split (t := 52) rfl (fun h => ?_) (fun h => ?_)
        all_goals first | refine dC (gF rfl rfl rfl rfl rfl) ?_ | refine dC (gN rfl rfl rfl (oF f38_1 rfl rfl)) ?_
        all_goals first | refine dC (gF rfl rfl rfl rfl rfl) ?_ | refine dC (gN rfl rfl rfl (oD ty27 rfl rfl rfl)) ?_
        all_goals first | refine dC (gF rfl rfl rfl rfl rfl) ?_ | refine dC (gN rfl rfl rfl (oF f38_1 rfl rfl)) ?_
        all_goals first | refine dC (gF rfl rfl rfl rfl rfl) ?_ | refine dC (gN rfl rfl rfl (oD ty27 rfl rfl rfl)) ?_
        all_goals first | refine dC (gF rfl rfl rfl rfl rfl) ?_ | refine dC (gN rfl rfl rfl (oE sl27 rfl rfl)) ?_
        all_goals first | refine dC (gF rfl rfl rfl rfl rfl) ?_ | refine dC (gN rfl rfl rfl (op_sub rfl rfl rfl (by omega))) ?_
        all_goals first | refine dC (gF rfl rfl rfl rfl rfl) ?_ | refine dC (gN rfl rfl rfl (op_ix sl27 rfl rfl rfl (by omega) hy)) ?_
        all_goals first | refine dC (gF rfl rfl rfl rfl rfl) ?_ | refine dC (gN rfl rfl rfl (oFR f143_0 rfl rfl)) ?_
        all_goals first | refine dC (gF rfl rfl rfl rfl rfl) ?_ | refine dC (gN rfl rfl rfl (oDR ty3 rfl rfl)) ?_
        all_goals first | refine dC (gF rfl rfl rfl rfl rfl) ?_ | refine dC (gN rfl rfl rfl (oF f90_2 rfl rfl)) ?_
        all_goals first | refine dC (gF rfl rfl rfl rfl rfl) ?_ | refine dC (gN rfl rfl rfl (oD ty3 rfl rfl rfl)) ?_
        all_goals first | refine dC (gF rfl rfl rfl rfl rfl) ?_ | refine dC (gN rfl rfl rfl (op_gtr rfl rfl rfl)) ?_
        all_goals refine dC (oQ rfl rfl rfl rfl) ?_
        all_goals refine dr_nil mixed rfl ?_
        all_goals exact Le.mk rfl (tlb rfl rfl rfl (tle rfl (rfl) rfl (tle rfl (by (show AV.v _ = AV.v _; rw [hlate]; clear hall hd hall0; simp_all)) rfl tln))) (olk rfl (by exact bC) oln) noS
      refine aC rfl (fun h2 => ?_) (fun h2 => ?_)
      · all_goals refine aS (aR ?_)
        all_goals refine oC (oA rfl (Conv.of rfl) rfl) ?_
        all_goals refine oN ?_
        refine aT ?_
        repeat first | refine rS ?_ | refine rB ?_
        refine finP (.v rfl (Conv.of rfl)) rfl ?_
        show AV.v false = _
        rw [hall, hd, List.any_cons, h2]; rfl
      · refine aW ?_
        all_goals refine aR ?_
        all_goals refine oC (oM rfl (Conv.of rfl) rfl) ?_
        all_goals refine oC (oP rfl rfl rfl (by omega)) ?_
        all_goals refine oC (oA rfl (Conv.of rfl) rfl) ?_
        all_goals refine oN ?_
        repeat first | refine nS ?_ | refine nB ?_
        exact ⟨n_ - 1, _, by omega, ⟨k + 1, by omega, by rw [hall, hd, List.any_cons, h2, Bool.false_or], rfl⟩, Le.mk rfl (tlb rfl rfl rfl (tle rfl (rfl) rfl tln)) (olk rfl (by exact bC) oln) noS⟩
    · refine aE ?_
      repeat refine ex_seq ?_
      refine eB ?_
      have hk : n.seen.length ≤ k := by simpa using h
      all_goals refine aS (aR ?_)
      all_goals refine oC (oA rfl (Conv.of rfl) rfl) ?_
      all_goals refine oN ?_
      refine aT ?_
      repeat first | refine rS ?_ | refine rB ?_
      refine finP (.v rfl (Conv.of rfl)) rfl ?_
      show AV.v true = _
      rw [hall, drop_end hk]; rfl
theorem l21All_ct (w : Wrld) (l : List Vote) : CtP Tryz.prog 48 [.v w, .v l] (.v (!(l.any fun v => !shownB w v))) := by
  refine Ct.intro Tryz.func48 rfl rfl ?_
  refine awp_bigL 1 rfl (fun hB => ?_)
  all_goals refine aS (aR ?_)
  all_goals refine oC (op_box (o := 0) ty26 rfl (Conv.of rfl) rfl rfl) ?_
  all_goals refine oC (oA rfl (Conv.of rfl) rfl) ?_
  all_goals refine oN ?_
  all_goals refine aS (aS (aR ?_))
  all_goals refine oC (oA rfl (Conv.of rfl) rfl) ?_
  all_goals refine oN ?_
  refine aB ?_
  refine awp_loop' (fun n_ s => ∃ (k : Nat), ∃ (hn : n_ + k = l.length), ∃ (hall : (l.any fun v => !shownB w v) = ((l.drop k).any fun v => !shownB w v)), s = mkSt 30 [(1, .v l), (2, .box 0 (IsLens.whole Wrld)), (5, .v (k : Int))] [(0, .cell w)]) (l.length) ⟨0, by omega, rfl, rfl⟩ (Le.mk rfl (tle rfl (rfl) rfl (tlb rfl rfl rfl (tle rfl (rfl) rfl tln))) (olk rfl (by exact bC) oln) noS) ?_
  rintro n_ s ⟨k, hn, hall, rfl⟩
  all_goals refine aS (aS (aR ?_))
  all_goals refine oC (oM rfl (Conv.of rfl) rfl) ?_
  all_goals refine oC (oM rfl (Conv.of rfl) rfl) ?_
  all_goals refine oC (oE sl24 rfl rfl) ?_
  all_goals refine oC (oLt rfl rfl rfl) ?_
  all_goals refine oN ?_
  refine aC rfl (fun h => ?_) (fun h => ?_)
  · have hlt : k < l.length := by simpa using h
    have hx : l[k]? = some l[k] := List.getElem?_eq_getElem hlt
    generalize l[k] = x at hx
    have hd := drop_at hx
    refine aW ?_
    refine aS (aB ?_)
    refine aST (s' := mkSt 30 [(1, .v l), (2, .box 0 (IsLens.whole Wrld)), (5, .v (k : Int)), (29, .v (!shownB w x))] [(0, .cell w)]) ?_ ?_
    · all_goals refine dS ?_
      all_goals refine dC (oM rfl (Conv.of rfl) rfl) ?_
      all_goals refine dC (oM rfl (Conv.of rfl) rfl) ?_
      all_goals refine dC (op_ix sl24 rfl rfl rfl (by omega) hx) ?_
      all_goals refine dC (oFR f38_0 rfl rfl) ?_
      all_goals refine dC (oDR ty3 rfl rfl) ?_
      all_goals refine dC (oF f26_3 rfl rfl) ?_
      all_goals refine dC (oD ty3 rfl rfl rfl) ?_
      all_goals refine dC (op_neq rfl rfl rfl) ?_
      all_goals refine dC (oM rfl (Conv.of rfl) rfl) ?_
      all_goals refine dr_split (t := 20) rfl (fun h => ?_) (fun h => ?_)
      all_goals first | refine dC (gF rfl rfl rfl rfl rfl) ?_ | refine dC (gN rfl rfl rfl (oF f26_2 rfl rfl)) ?_
      all_goals first | refine dC (gF rfl rfl rfl rfl rfl) ?_ | refine dC (gN rfl rfl rfl (oD ty24 rfl rfl rfl)) ?_
      all_goals first | refine dC (gF rfl rfl rfl rfl rfl) ?_ | refine dC (gN rfl rfl rfl (oM rfl (Conv.of rfl) rfl)) ?_
      all_goals first | refine dC (gF rfl rfl rfl rfl rfl) ?_ | refine dC (gN rfl rfl rfl (oM rfl (Conv.of rfl) rfl)) ?_
      all_goals first | refine dC (gF rfl rfl rfl rfl rfl) ?_ | refine dC (gN rfl rfl rfl (op_ix sl24 rfl rfl rfl (by omega) hx)) ?_
      all_goals first | refine dC (gF rfl rfl rfl rfl rfl) ?_ | refine dC (gN rfl rfl rfl (oDR ty38 rfl rfl)) ?_
      all_goals first | refine dC (gF rfl rfl rfl rfl rfl) ?_ | refine dC (gN rfl rfl rfl (oL fb106 (.cons rfl (Conv.of rfl) (.cons rfl (Conv.of rfl) (.nil _))) (l3Has_ct _ _) (aK rfl rfl (aK rfl rfl aK0)) rfl rfl)) ?_
      all_goals first | refine dC (gF rfl rfl rfl rfl rfl) ?_ | refine dC (gN rfl rfl rfl (op_not rfl rfl)) ?_
      all_goals refine dC (oQ rfl rfl rfl rfl) ?_
      all_goals refine dr_nil mixed rfl ?_
      all_goals exact Le.mk rfl (tle rfl (rfl) rfl (tlb rfl rfl rfl (tle rfl (rfl) rfl (tle rfl (by (show AV.v _ = AV.v _; unfold shownB; clear hall hd; simp_all)) rfl tln)))) (olk rfl (by exact bC) oln) noS
    refine aC rfl (fun h2 => ?_) (fun h2 => ?_)
    · all_goals refine aS (aR ?_)
      all_goals refine oC (oA rfl (Conv.of rfl) rfl) ?_
      all_goals refine oN ?_
      refine aT ?_
      repeat first | refine rS ?_ | refine rB ?_
      refine finP (.v rfl (Conv.of rfl)) rfl ?_
      show AV.v false = _
      rw [hall, hd, List.any_cons, h2]; rfl
    · refine aW ?_
      all_goals refine aR ?_
      all_goals refine oC (oM rfl (Conv.of rfl) rfl) ?_
      all_goals refine oC (oP rfl rfl rfl (by omega)) ?_
      all_goals refine oC (oA rfl (Conv.of rfl) rfl) ?_
      all_goals refine oN ?_
      repeat first | refine nS ?_ | refine nB ?_
      exact ⟨n_ - 1, _, by omega, ⟨k + 1, by omega, by rw [hall, hd, List.any_cons, h2, Bool.false_or], rfl⟩, Le.mk rfl (tle rfl (rfl) rfl (tlb rfl rfl rfl (tle rfl (rfl) rfl tln))) (olk rfl (by exact bC) oln) noS⟩
  · refine aE ?_
    repeat refine ex_seq ?_
    refine eB ?_
    have hk : l.length ≤ k := by simpa using h
    all_goals refine aS (aR ?_)
    all_goals refine oC (oA rfl (Conv.of rfl) rfl) ?_
    all_goals refine oN ?_
    refine aT ?_
    repeat first | refine rS ?_ | refine rB ?_
    refine finP (.v rfl (Conv.of rfl)) rfl ?_
    show AV.v true = _
    rw [hall, drop_end hk]; rfl
set_option maxHeartbeats 4000000 in
theorem sWorldOk_ct (w : Wrld) : CtP Tryz.prog 10 [.v w] (.v (worldOk w)) := by
  refine Ct.intro Tryz.func10 rfl rfl ?_
  all_goals refine aS (aR ?_)
  all_goals refine oC (op_box (o := 0) ty26 rfl (Conv.of rfl) rfl rfl) ?_
  all_goals refine oC (oA rfl (Conv.of rfl) rfl) ?_
  all_goals refine oN ?_
  refine aS (aST (s' := mkSt 69 [(1, .box 0 (IsLens.whole Wrld)), (32, .v (!worldOk0 w))] [(0, .cell w)]) ?_ ?_)
  · all_goals refine aR ?_
    all_goals refine oC (oF f26_0 rfl rfl) ?_
    all_goals refine oC (oD ty3 rfl rfl rfl) ?_
    all_goals refine oC (oL fb50 (.cons rfl (Conv.of rfl) (.cons rfl (Conv.of rfl) (.cons rfl (Conv.of rfl) (.nil _)))) (l6In_ct _ _ _) (aK rfl rfl (aK rfl rfl (aK rfl rfl aK0))) rfl rfl) ?_
    all_goals refine oC (op_not rfl rfl) ?_
    all_goals refine oC (oM rfl (Conv.of rfl) rfl) ?_
    all_goals refine g_split (t := 9) rfl (fun h => ?_) (fun h => ?_)
    all_goals first | refine oC (gF rfl rfl rfl rfl rfl) ?_ | refine oC (gN rfl rfl rfl (oF f26_3 rfl rfl)) ?_
    all_goals first | refine oC (gF rfl rfl rfl rfl rfl) ?_ | refine oC (gN rfl rfl rfl (oD ty3 rfl rfl rfl)) ?_
    all_goals first | refine oC (gF rfl rfl rfl rfl rfl) ?_ | refine oC (gN rfl rfl rfl (oL fb50 (.cons rfl (Conv.of rfl) (.cons rfl (Conv.of rfl) (.cons rfl (Conv.of rfl) (.nil _)))) (l6In_ct _ _ _) (aK rfl rfl (aK rfl rfl (aK rfl rfl aK0))) rfl rfl)) ?_
    all_goals first | refine oC (gF rfl rfl rfl rfl rfl) ?_ | refine oC (gN rfl rfl rfl (op_not rfl rfl)) ?_
    all_goals refine oC (oQ rfl rfl rfl rfl) ?_
    all_goals refine oC (oM rfl (Conv.of rfl) rfl) ?_
    all_goals first | refine g_lit (t := 15) (b := true) rfl ?_ | refine g_split (t := 15) rfl (fun h => ?_) (fun h => ?_)
    all_goals first | refine oC (gF rfl rfl rfl rfl rfl) ?_ | refine oC (gN rfl rfl rfl (oF f26_1 rfl rfl)) ?_
    all_goals first | refine oC (gF rfl rfl rfl rfl rfl) ?_ | refine oC (gN rfl rfl rfl (oD ty23 rfl rfl rfl)) ?_
    all_goals first | refine oC (gF rfl rfl rfl rfl rfl) ?_ | refine oC (gN rfl rfl rfl (oE sl23 rfl rfl)) ?_
    all_goals first | refine oC (gF rfl rfl rfl rfl rfl) ?_ | refine oC (gN rfl rfl rfl (op_neq rfl rfl rfl)) ?_
    all_goals refine oC (oQ rfl rfl rfl rfl) ?_
    all_goals refine oC (oM rfl (Conv.of rfl) rfl) ?_
    all_goals first | refine g_lit (t := 21) (b := true) rfl ?_ | refine g_split (t := 21) rfl (fun h => ?_) (fun h => ?_)
    all_goals first | refine oC (gF rfl rfl rfl rfl rfl) ?_ | refine oC (gN rfl rfl rfl (oF f26_2 rfl rfl)) ?_
    all_goals first | refine oC (gF rfl rfl rfl rfl rfl) ?_ | refine oC (gN rfl rfl rfl (oD ty24 rfl rfl rfl)) ?_
    all_goals first | refine oC (gF rfl rfl rfl rfl rfl) ?_ | refine oC (gN rfl rfl rfl (oE sl24 rfl rfl)) ?_
    all_goals first | refine oC (gF rfl rfl rfl rfl rfl) ?_ | refine oC (gN rfl rfl rfl (op_gtr rfl rfl rfl)) ?_
    all_goals refine oC (oQ rfl rfl rfl rfl) ?_
    all_goals refine oC (oM rfl (Conv.of rfl) rfl) ?_
    all_goals first | refine g_lit (t := 27) (b := true) rfl ?_ | refine g_split (t := 27) rfl (fun h => ?_) (fun h => ?_)
    all_goals first | refine oC (gF rfl rfl rfl rfl rfl) ?_ | refine oC (gN rfl rfl rfl (oF f26_2 rfl rfl)) ?_
    all_goals first | refine oC (gF rfl rfl rfl rfl rfl) ?_ | refine oC (gN rfl rfl rfl (oD ty24 rfl rfl rfl)) ?_
    all_goals first | refine oC (gF rfl rfl rfl rfl rfl) ?_ | refine oC (gN rfl rfl rfl (oL fb51 (.cons rfl (Conv.of rfl) (.nil _)) (sVotesOk_ct _) (aK rfl rfl aK0) rfl rfl)) ?_
    all_goals first | refine oC (gF rfl rfl rfl rfl rfl) ?_ | refine oC (gN rfl rfl rfl (op_not rfl rfl)) ?_
    all_goals refine oC (oQ rfl rfl rfl rfl) ?_
    all_goals refine oN ?_
    all_goals exact Le.mk rfl (tlb rfl rfl rfl (tle rfl (by (show AV.v _ = AV.v _; unfold worldOk0; simp_all; try omega)) rfl tln)) (olk rfl (by exact bC) oln) noS
  refine aC rfl (fun h => ?_) (fun h => ?_)
  · all_goals refine aS (aR ?_)
    all_goals refine oC (oA rfl (Conv.of rfl) rfl) ?_
    all_goals refine oN ?_
    refine aT ?_
    repeat first | refine rS ?_ | refine rB ?_
    refine finP (.v rfl (Conv.of rfl)) rfl ?_
    show AV.v false = _
    simp [worldOk, not_t h]
  · have h0 := not_f h
    have heq : worldOk w = nodesOkFrom w w.nodes 0 := by rw [worldOk, h0, Bool.true_and]
    have h04 : w.nodes.length = 4 := by have := h0; simp only [worldOk0, Bool.and_eq_true, decide_eq_true_eq] at this; exact this.1.1.2
    refine aW ?_
    all_goals refine aS (aS (aR ?_))
    all_goals refine oC (oA rfl (Conv.of rfl) rfl) ?_
    all_goals refine oN ?_
    refine aB ?_
    refine awp_loop' (fun n_ s => ∃ (k : Nat), ∃ (hn : n_ + k = 4), ∃ (hall : worldOk w = nodesOkFrom w (w.nodes.drop k) k), s = mkSt 69 [(1, .box 0 (IsLens.whole Wrld)), (3, .v (k : Int))] [(0, .cell w)]) (4) ⟨0, by omega, heq, rfl⟩ (Le.mk rfl (tlb rfl rfl rfl (tle rfl (rfl) rfl tln)) (olk rfl (by exact bC) oln) noS) ?_
    rintro n_ s ⟨k, hn, hall, rfl⟩
    all_goals refine aS (aS (aR ?_))
    all_goals refine oC (oM rfl (Conv.of rfl) rfl) ?_
    all_goals refine oC (oF f26_1 rfl rfl) ?_
    all_goals refine oC (oD ty23 rfl rfl rfl) ?_
    all_goals refine oC (oE sl23 rfl rfl) ?_
    all_goals refine oC (oLt rfl rfl rfl) ?_
    all_goals refine oN ?_
    refine aC rfl (fun h => ?_) (fun h => ?_)
    · have hlt : k < w.nodes.length := by simpa using h
      have hx : w.nodes[k]? = some w.nodes[k] := List.getElem?_eq_getElem hlt
      generalize w.nodes[k] = a at hx
      have hs := nodesOk_drop (w := w) hx
      refine aW ?_
      refine aS (aB ?_)
      all_goals refine aS (aR ?_)
      all_goals refine oC (oF f26_1 rfl rfl) ?_
      all_goals refine oC (oD ty23 rfl rfl rfl) ?_
      all_goals refine oC (oM rfl (Conv.of rfl) rfl) ?_
      all_goals refine oC (op_ix sl23 rfl rfl rfl (by omega) hx) ?_
      all_goals refine oC (oDR ty90 rfl rfl) ?_
      all_goals refine oC (oX (o := 1) z90 rfl rfl) ?_
      all_goals refine oC (op_st ty90 rfl rfl (Conv.of rfl) rfl) ?_
      all_goals refine oN ?_
      refine aST (s' := mkSt 69 [(1, .box 0 (IsLens.whole Wrld)), (3, .v (k : Int)), (68, .v (!nodeIn w k a))] [(0, .cell w)]) ?_ ?_
      · all_goals refine aR ?_
        all_goals refine oC (oD ty90 rfl rfl rfl) ?_
        all_goals refine oC (oL fb52 (.cons rfl (Conv.of rfl) (.nil _)) (sNodeOk_ct _) (aK rfl rfl aK0) rfl rfl) ?_
        all_goals refine oC (op_not rfl rfl) ?_
        all_goals refine oC (oM rfl (Conv.of rfl) rfl) ?_
        all_goals refine g_split (t := 48) rfl (fun h => ?_) (fun h => ?_)
        all_goals first | refine oC (gF rfl rfl rfl rfl rfl) ?_ | refine oC (gN rfl rfl rfl (oF f90_0 rfl rfl)) ?_
        all_goals first | refine oC (gF rfl rfl rfl rfl rfl) ?_ | refine oC (gN rfl rfl rfl (oD ty3 rfl rfl rfl)) ?_
        all_goals first | refine oC (gF rfl rfl rfl rfl rfl) ?_ | refine oC (gN rfl rfl rfl (oM rfl (Conv.of rfl) rfl)) ?_
        all_goals first | refine oC (gF rfl rfl rfl rfl rfl) ?_ | refine oC (gN rfl rfl rfl (oP rfl rfl rfl (by omega))) ?_
        all_goals first | refine oC (gF rfl rfl rfl rfl rfl) ?_ | refine oC (gN rfl rfl rfl (op_neq rfl rfl rfl)) ?_
        all_goals refine oC (oQ rfl rfl rfl rfl) ?_
        all_goals refine oC (oM rfl (Conv.of rfl) rfl) ?_
        all_goals first | refine g_lit (t := 55) (b := true) rfl ?_ | refine g_split (t := 55) rfl (fun h => ?_) (fun h => ?_)
        all_goals first | refine oC (gF rfl rfl rfl rfl rfl) ?_ | refine oC (gN rfl rfl rfl (oF f90_1 rfl rfl)) ?_
        all_goals first | refine oC (gF rfl rfl rfl rfl rfl) ?_ | refine oC (gN rfl rfl rfl (oD ty3 rfl rfl rfl)) ?_
        all_goals first | refine oC (gF rfl rfl rfl rfl rfl) ?_ | refine oC (gN rfl rfl rfl (oF f26_0 rfl rfl)) ?_
        all_goals first | refine oC (gF rfl rfl rfl rfl rfl) ?_ | refine oC (gN rfl rfl rfl (oD ty3 rfl rfl rfl)) ?_
        all_goals first | refine oC (gF rfl rfl rfl rfl rfl) ?_ | refine oC (gN rfl rfl rfl (op_neq rfl rfl rfl)) ?_
        all_goals refine oC (oQ rfl rfl rfl rfl) ?_
        all_goals refine oC (oM rfl (Conv.of rfl) rfl) ?_
        all_goals first | refine g_lit (t := 62) (b := true) rfl ?_ | refine g_split (t := 62) rfl (fun h => ?_) (fun h => ?_)
        all_goals first | refine oC (gF rfl rfl rfl rfl rfl) ?_ | refine oC (gN rfl rfl rfl (oD ty26 rfl rfl rfl)) ?_
        all_goals first | refine oC (gF rfl rfl rfl rfl rfl) ?_ | refine oC (gN rfl rfl rfl (oF f90_3 rfl rfl)) ?_
        all_goals first | refine oC (gF rfl rfl rfl rfl rfl) ?_ | refine oC (gN rfl rfl rfl (oD ty24 rfl rfl rfl)) ?_
        all_goals first | refine oC (gF rfl rfl rfl rfl rfl) ?_ | refine oC (gN rfl rfl rfl (oL fb48 (.cons rfl (Conv.of rfl) (.cons rfl (Conv.of rfl) (.nil _))) (l21All_ct _ _) (aK rfl rfl (aK rfl rfl aK0)) rfl rfl)) ?_
        all_goals first | refine oC (gF rfl rfl rfl rfl rfl) ?_ | refine oC (gN rfl rfl rfl (op_not rfl rfl)) ?_
        all_goals refine oC (oQ rfl rfl rfl rfl) ?_
        all_goals refine oN ?_
        all_goals exact Le.mk rfl (tlb rfl rfl rfl (tle rfl (rfl) rfl (tle rfl (by (show AV.v _ = AV.v _; unfold nodeIn; clear hall hs; simp_all)) rfl tln))) (olk rfl (by exact bC) oln) noS
      refine aC rfl (fun h2 => ?_) (fun h2 => ?_)
      · all_goals refine aS (aR ?_)
        all_goals refine oC (oA rfl (Conv.of rfl) rfl) ?_
        all_goals refine oN ?_
        refine aT ?_
        repeat first | refine rS ?_ | refine rB ?_
        refine finP (.v rfl (Conv.of rfl)) rfl ?_
        show AV.v false = _
        rw [hall, hs, not_t h2, Bool.false_and]
      · refine aW ?_
        all_goals refine aR ?_
        all_goals refine oC (oM rfl (Conv.of rfl) rfl) ?_
        all_goals refine oC (oP rfl rfl rfl (by omega)) ?_
        all_goals refine oC (oA rfl (Conv.of rfl) rfl) ?_
        all_goals refine oN ?_
        repeat first | refine nS ?_ | refine nB ?_
        exact ⟨n_ - 1, _, by omega, ⟨k + 1, by omega, by rw [hall, hs, not_f h2, Bool.true_and], rfl⟩, Le.mk rfl (tlb rfl rfl rfl (tle rfl (rfl) rfl tln)) (olk rfl (by exact bC) oln) noS⟩
    · refine aE ?_
      repeat refine ex_seq ?_
      refine eB ?_
      have hk : w.nodes.length ≤ k := by simpa using h
      all_goals refine aS (aR ?_)
      all_goals refine oC (oA rfl (Conv.of rfl) rfl) ?_
      all_goals refine oN ?_
      refine aT ?_
      repeat first | refine rS ?_ | refine rB ?_
      refine finP (.v rfl (Conv.of rfl)) rfl ?_
      show AV.v true = _
      rw [hall, drop_end hk]; rfl
theorem l3Copy_ct (l : List Vote) (hl : l.length ≤ 1000000) (hv : ∀ v ∈ l, v.chain.length ≤ 1000000) : CtP Tryz.prog 129 [.v l] (.v (OList.mk l true)) := by
  refine Ct.intro Tryz.func129 rfl rfl ?_
  refine aS (aR ?_)
  refine oC (oA rfl (Conv.of rfl) rfl) ?_
  refine oN ?_
  refine aS (aR ?_)
  refine oC (op_bsl sl24 z38 (.nil _) rfl (by decide) rfl) ?_
  refine oC (op_asl rfl rfl rfl rfl) ?_
  refine oN ?_
  refine aS (aS (aR ?_))
  refine oC (oA rfl (Conv.of rfl) rfl) ?_
  refine oN ?_
  refine aB ?_
  refine awp_loop' (fun n_ s => ∃ (k : Nat), ∃ (hn : n_ + k = l.length), s = mkSt 21 [(0, .v l), (3, .v (OList.mk (l.take k) true)), (4, .v (k : Int))] []) (l.length) ⟨0, by omega, rfl⟩ (Le.mk rfl (tle rfl (rfl) rfl (tle rfl (by rfl) rfl (tle rfl (rfl) rfl tln))) oln noS) ?_
  rintro n_ s ⟨k, hn, rfl⟩
  refine aS (aS (aR ?_))
  refine oC (oM rfl (Conv.of rfl) rfl) ?_
  refine oC (oM rfl (Conv.of rfl) rfl) ?_
  refine oC (oE sl24 rfl rfl) ?_
  refine oC (oLt rfl rfl rfl) ?_
  refine oN ?_
  refine aC rfl (fun h => ?_) (fun h => ?_)
  · have hlt : k < l.length := by simpa using h
    have hx : l[k]? = some l[k] := List.getElem?_eq_getElem hlt
    have hvk := hv _ (List.getElem_mem hlt)
    generalize l[k] = x at hx hvk
    refine aW ?_
    refine aS (aB ?_)
    refine aR ?_
    refine oC (op_mvl rfl rfl rfl rfl) ?_
    refine oC (oM rfl (Conv.of rfl) rfl) ?_
    refine oC (oM rfl (Conv.of rfl) rfl) ?_
    refine oC (op_ix sl24 rfl rfl rfl (by omega) hx) ?_
    refine oC (oDR ty38 rfl rfl) ?_
    refine oC (oL fb160 (.cons rfl (Conv.of rfl) (.nil _)) (l3VoteCopy_ct x hvk) (aK rfl rfl aK0) rfl rfl) ?_
    refine oC (op_bsl sl24 z38 (.cons rfl (Conv.of rfl) (.nil _)) rfl (by decide) rfl) ?_
    refine oC (op_app sl24 z38 ul24 rfl rfl rfl (by (simp; omega)) (by (simp; omega)) rfl rfl) ?_
    refine oC (op_asl rfl rfl rfl rfl) ?_
    refine oN ?_
    refine aR ?_
    refine oC (oM rfl (Conv.of rfl) rfl) ?_
    refine oC (oP rfl rfl rfl (by omega)) ?_
    refine oC (oA rfl (Conv.of rfl) rfl) ?_
    refine oN ?_
    repeat first | refine nS ?_ | refine nB ?_
    exact ⟨n_ - 1, _, by omega, ⟨k + 1, by omega, rfl⟩, Le.mk rfl (tle rfl (rfl) rfl (tle rfl (by (rw [take_at hx])) rfl (tle rfl (rfl) rfl tln))) oln noS⟩
  · refine aE ?_
    repeat refine ex_seq ?_
    refine eB ?_
    have hk : l.length ≤ k := by simpa using h
    refine aS (aR ?_)
    refine oC (op_mvl rfl rfl rfl rfl) ?_
    refine oC (op_asl rfl rfl rfl rfl) ?_
    refine oN ?_
    refine aT ?_
    repeat first | refine rS ?_ | refine rB ?_
    exact finM rfl rfl (by rw [take_end hk])
theorem l12Copy_ct (n : Nod) (hl : n.seen.length ≤ 1000000) (hv : ∀ v ∈ n.seen, v.chain.length ≤ 1000000) : CtP Tryz.prog 130 [.v n] (.v (sN n)) := by
  refine Ct.intro Tryz.func130 rfl rfl ?_
  refine aS (aR ?_)
  refine oC (op_box (o := 0) ty90 rfl (Conv.of rfl) rfl rfl) ?_
  refine oC (oX (o := 1) z90_NodS rfl rfl) ?_
  refine oN ?_
  refine awp_recell (o := 0) (tb := 1) (β := NodS) (y := fN n) rfl rfl (fun G w ω cs h => nod_fN h) ?_
  refine aS (aR ?_)
  refine oC (oF f90_3_NodS rfl rfl) ?_
  refine oC (op_ldl ty24_OListVote rfl rfl rfl) ?_
  refine oC (oL fb129 (.cons rfl (Conv.of rfl) (.nil _)) (l3Copy_ct n.seen hl hv) (aK rfl rfl aK0) rfl rfl) ?_
  refine oC (oF f90_3_NodS rfl rfl) ?_
  refine oC (op_stm ty24_OListVote rfl rfl rfl) ?_
  refine oN ?_
  refine aS (aR ?_)
  refine oC (op_ldm ty90_NodS rfl rfl rfl) ?_
  refine oC (op_stm ty90_NodS rfl rfl rfl) ?_
  refine oN ?_
  refine aT ?_
  repeat first | refine rS ?_ | refine rB ?_
  exact ⟨_, _, res1C (ol := []) ty90_NodS rfl rfl (fun o ho => absurd (show o ∈ ([] : List Nat) from ho) (by simp)) oln noS, rfl, rfl⟩
end Go.Proofs.YtmhmeppocbcmeaaGreat

/- The reference: a world anew. -/
set_option linter.unusedVariables false
set_option linter.unusedSimpArgs false
namespace Go.Proofs.YtmhmeppocbcmeaaGreat
open Go Go.Wt
set_option maxHeartbeats 4000000 in
theorem l21Copy4_ct (e : Int) (a b c d : Nod) (l : List Vote) (bd : Int) (hl : Gd l) (ha : Gd a.seen) (hb : Gd b.seen) (hc : Gd c.seen) (hd : Gd d.seen) :
    Ct Tryz.prog 76 [.v (Wrld.mk e [a, b, c, d] l bd)] noObj (fun r1 h1 => r1 = .v (WrldS.mk e (.ref 1) ⟨l, true⟩ bd) ∧ h1 = obs [(1, .arr ([sN a, sN b, sN c, sN d] : List NodS))]) := by
  refine Ct.intro Tryz.func76 rfl rfl ?_
  refine aS (aR ?_)
  refine oC (op_box (o := 20) ty26 rfl (Conv.of rfl) rfl rfl) ?_
  refine oC (oX (o := 5) z26_WrldS rfl rfl) ?_
  refine oN ?_
  refine aS (dS ?_)
  refine dC (oF f26_0 rfl rfl) ?_
  refine dC (oD ty3 rfl rfl rfl) ?_
  refine dC (oF f26_2 rfl rfl) ?_
  refine dC (oD ty24 rfl rfl rfl) ?_
  refine dC (oL fb129 (.cons rfl (Conv.of rfl) (.nil _)) (l3Copy_ct l hl.l' hl.v) (aK rfl rfl aK0) rfl rfl) ?_
  refine dC (oF f26_3 rfl rfl) ?_
  refine dC (oD ty3 rfl rfl rfl) ?_
  refine dC (op_buildW (s := 9) (r := 5) (d := 12) (l := l) (e := e) (bd := bd) rfl rfl rfl (one_box rfl) (fun hv => .cons f26_0_WrldH rfl (Conv.of rfl) (.cons f26_2_WrldH rfl (Conv.of rfl) (.cons f26_3_WrldH rfl (Conv.of rfl) (.nil _)))) z26_WrldH pl26 rfl) ?_
  refine dC (oX (o := 0) z26_WrldS rfl rfl) ?_
  refine dC (op_stm ty26_WrldS rfl rfl rfl) ?_
  refine dr_nil mixed rfl ?_
  refine aS (aS (aR ?_))
  refine oC (oA rfl (Conv.of rfl) rfl) ?_
  refine oN ?_
  refine aB ?_
  refine awp_loop' (fun n s => (n = 4 ∧ s = mkSt 32 [(1, .box 20 (IsLens.whole Wrld)), (2, .box 5 (IsLens.whole WrldS)), (3, .box 0 (IsLens.whole WrldS)), (4, .v (0 : Int))] [(0, .cell (WrldS.mk e .nil ⟨l, true⟩ bd)), (5, .cell WrldS.zero), (20, .cell (Wrld.mk e [a, b, c, d] l bd))]) ∨ (n = 3 ∧ s = mkSt 32 [(1, .box 20 (IsLens.whole Wrld)), (2, .box 5 (IsLens.whole WrldS)), (3, .box 0 (IsLens.whole WrldS)), (4, .v (1 : Int))] [(0, .cell (WrldS.mk e (.ref 11) ⟨l, true⟩ bd)), (5, .cell WrldS.zero), (20, .cell (Wrld.mk e [a, b, c, d] l bd)), (11, .arr ([sN a] : List NodS))]) ∨ (n = 2 ∧ s = mkSt 32 [(1, .box 20 (IsLens.whole Wrld)), (2, .box 5 (IsLens.whole WrldS)), (3, .box 0 (IsLens.whole WrldS)), (4, .v (2 : Int))] [(0, .cell (WrldS.mk e (.ref 12) ⟨l, true⟩ bd)), (5, .cell WrldS.zero), (20, .cell (Wrld.mk e [a, b, c, d] l bd)), (12, .arr ([sN a, sN b] : List NodS))]) ∨ (n = 1 ∧ s = mkSt 32 [(1, .box 20 (IsLens.whole Wrld)), (2, .box 5 (IsLens.whole WrldS)), (3, .box 0 (IsLens.whole WrldS)), (4, .v (3 : Int))] [(0, .cell (WrldS.mk e (.ref 13) ⟨l, true⟩ bd)), (5, .cell WrldS.zero), (20, .cell (Wrld.mk e [a, b, c, d] l bd)), (13, .arr ([sN a, sN b, sN c] : List NodS))]) ∨ (n = 0 ∧ s = mkSt 32 [(1, .box 20 (IsLens.whole Wrld)), (2, .box 5 (IsLens.whole WrldS)), (3, .box 0 (IsLens.whole WrldS)), (4, .v (4 : Int))] [(0, .cell (WrldS.mk e (.ref 1) ⟨l, true⟩ bd)), (5, .cell WrldS.zero), (20, .cell (Wrld.mk e [a, b, c, d] l bd)), (1, .arr ([sN a, sN b, sN c, sN d] : List NodS))])) 4 (.inl ⟨rfl, rfl⟩) (Le.mk rfl (tlb rfl rfl rfl (tlb rfl rfl rfl (tlb rfl rfl rfl (tle rfl (rfl) rfl tln)))) (olk rfl (by exact obOkS0) (olk rfl (by exact obOkS0) (olk rfl (by exact bC) oln))) noS) ?_
  rintro n s (⟨rfl, rfl⟩|⟨rfl, rfl⟩|⟨rfl, rfl⟩|⟨rfl, rfl⟩|⟨rfl, rfl⟩)
  · refine aS (aS (aR ?_))
    refine oC (oM rfl (Conv.of rfl) rfl) ?_
    refine oC (oF f26_1 rfl rfl) ?_
    refine oC (oD ty23 rfl rfl rfl) ?_
    refine oC (oE sl23 rfl rfl) ?_
    refine oC (oLt rfl rfl rfl) ?_
    refine oN ?_
    refine aC rfl (fun h => ?_) (fun h => ?_)
    rotate_left
    · simp at h
    refine aW ?_
    refine aS (aB ?_)
    have hx : ([a, b, c, d] : List Nod)[0]? = some a := rfl
    refine dS ?_
    refine dC (oF f26_1_WrldS rfl rfl) ?_
    refine dC (oD ty23_NRef rfl rfl rfl) ?_
    refine dC (oF f26_1 rfl rfl) ?_
    refine dC (oD ty23 rfl rfl rfl) ?_
    refine dC (oM rfl (Conv.of rfl) rfl) ?_
    refine dC (op_ix sl23 rfl rfl rfl (by omega) hx) ?_
    refine dC (oDR ty90 rfl rfl) ?_
    refine dC (oL fb130 (.cons rfl (Conv.of rfl) (.nil _)) (l12Copy_ct a ha.l' ha.v) (aK rfl rfl aK0) rfl rfl) ?_
    refine dC (op_bsm (s := 27) (d := 28) (o := 31) sl23_NodS z90_NodS rfl rfl rfl (by decide) rfl) ?_
    refine dC (op_apMN (o2 := 31) (o' := 11) sl23_NodS z90_NodS ul23 rfl rfl rfl rfl (by simp) (by simp) (by simp) rfl) ?_
    refine dC (oF f26_1_WrldS rfl rfl) ?_
    refine dC (op_st ty23_NRef rfl rfl (Conv.of rfl) rfl) ?_
    refine dr_nil mixed rfl ?_
    refine aR ?_
    refine oC (oM rfl (Conv.of rfl) rfl) ?_
    refine oC (oP rfl rfl rfl (by omega)) ?_
    refine oC (oA rfl (Conv.of rfl) rfl) ?_
    refine oN ?_
    repeat first | refine nS ?_ | refine nB ?_
    exact ⟨3, _, by decide, .inr (.inl ⟨rfl, rfl⟩), Le.mk rfl (tlb rfl rfl rfl (tlb rfl rfl rfl (tlb rfl rfl rfl (tle rfl (rfl) rfl tln)))) (olk rfl (by exact obOkS rfl) (olk rfl (by exact obOkS0) (olk rfl (by exact bC) (olk rfl (by exact bN) oln)))) noS⟩
  · refine aS (aS (aR ?_))
    refine oC (oM rfl (Conv.of rfl) rfl) ?_
    refine oC (oF f26_1 rfl rfl) ?_
    refine oC (oD ty23 rfl rfl rfl) ?_
    refine oC (oE sl23 rfl rfl) ?_
    refine oC (oLt rfl rfl rfl) ?_
    refine oN ?_
    refine aC rfl (fun h => ?_) (fun h => ?_)
    rotate_left
    · simp at h
    refine aW ?_
    refine aS (aB ?_)
    have hx : ([a, b, c, d] : List Nod)[1]? = some b := rfl
    refine dS ?_
    refine dC (oF f26_1_WrldS rfl rfl) ?_
    refine dC (oD ty23_NRef rfl rfl rfl) ?_
    refine dC (oF f26_1 rfl rfl) ?_
    refine dC (oD ty23 rfl rfl rfl) ?_
    refine dC (oM rfl (Conv.of rfl) rfl) ?_
    refine dC (op_ix sl23 rfl rfl rfl (by omega) hx) ?_
    refine dC (oDR ty90 rfl rfl) ?_
    refine dC (oL fb130 (.cons rfl (Conv.of rfl) (.nil _)) (l12Copy_ct b hb.l' hb.v) (aK rfl rfl aK0) rfl rfl) ?_
    refine dC (op_bsm (s := 27) (d := 28) (o := 32) sl23_NodS z90_NodS rfl rfl rfl (by decide) rfl) ?_
    refine dC (op_apMA (o := 11) (o2 := 32) (o' := 12) sl23_NodS z90_NodS ul23 rfl rfl rfl rfl rfl rfl (by simp) (by simp) (by simp) rfl) ?_
    refine dC (oF f26_1_WrldS rfl rfl) ?_
    refine dC (op_st ty23_NRef rfl rfl (Conv.of rfl) rfl) ?_
    refine dr_nil mixed rfl ?_
    refine aR ?_
    refine oC (oM rfl (Conv.of rfl) rfl) ?_
    refine oC (oP rfl rfl rfl (by omega)) ?_
    refine oC (oA rfl (Conv.of rfl) rfl) ?_
    refine oN ?_
    repeat first | refine nS ?_ | refine nB ?_
    exact ⟨2, _, by decide, .inr (.inr (.inl ⟨rfl, rfl⟩)), Le.mk rfl (tlb rfl rfl rfl (tlb rfl rfl rfl (tlb rfl rfl rfl (tle rfl (rfl) rfl tln)))) (olk rfl (by exact obOkS rfl) (olk rfl (by exact obOkS0) (olk rfl (by exact bC) (olk rfl (by exact bN) oln)))) noS⟩
  · refine aS (aS (aR ?_))
    refine oC (oM rfl (Conv.of rfl) rfl) ?_
    refine oC (oF f26_1 rfl rfl) ?_
    refine oC (oD ty23 rfl rfl rfl) ?_
    refine oC (oE sl23 rfl rfl) ?_
    refine oC (oLt rfl rfl rfl) ?_
    refine oN ?_
    refine aC rfl (fun h => ?_) (fun h => ?_)
    rotate_left
    · simp at h
    refine aW ?_
    refine aS (aB ?_)
    have hx : ([a, b, c, d] : List Nod)[2]? = some c := rfl
    refine dS ?_
    refine dC (oF f26_1_WrldS rfl rfl) ?_
    refine dC (oD ty23_NRef rfl rfl rfl) ?_
    refine dC (oF f26_1 rfl rfl) ?_
    refine dC (oD ty23 rfl rfl rfl) ?_
    refine dC (oM rfl (Conv.of rfl) rfl) ?_
    refine dC (op_ix sl23 rfl rfl rfl (by omega) hx) ?_
    refine dC (oDR ty90 rfl rfl) ?_
    refine dC (oL fb130 (.cons rfl (Conv.of rfl) (.nil _)) (l12Copy_ct c hc.l' hc.v) (aK rfl rfl aK0) rfl rfl) ?_
    refine dC (op_bsm (s := 27) (d := 28) (o := 33) sl23_NodS z90_NodS rfl rfl rfl (by decide) rfl) ?_
    refine dC (op_apMA (o := 12) (o2 := 33) (o' := 13) sl23_NodS z90_NodS ul23 rfl rfl rfl rfl rfl rfl (by simp) (by simp) (by simp) rfl) ?_
    refine dC (oF f26_1_WrldS rfl rfl) ?_
    refine dC (op_st ty23_NRef rfl rfl (Conv.of rfl) rfl) ?_
    refine dr_nil mixed rfl ?_
    refine aR ?_
    refine oC (oM rfl (Conv.of rfl) rfl) ?_
    refine oC (oP rfl rfl rfl (by omega)) ?_
    refine oC (oA rfl (Conv.of rfl) rfl) ?_
    refine oN ?_
    repeat first | refine nS ?_ | refine nB ?_
    exact ⟨1, _, by decide, .inr (.inr (.inr (.inl ⟨rfl, rfl⟩))), Le.mk rfl (tlb rfl rfl rfl (tlb rfl rfl rfl (tlb rfl rfl rfl (tle rfl (rfl) rfl tln)))) (olk rfl (by exact obOkS rfl) (olk rfl (by exact obOkS0) (olk rfl (by exact bC) (olk rfl (by exact bN) oln)))) noS⟩
  · refine aS (aS (aR ?_))
    refine oC (oM rfl (Conv.of rfl) rfl) ?_
    refine oC (oF f26_1 rfl rfl) ?_
    refine oC (oD ty23 rfl rfl rfl) ?_
    refine oC (oE sl23 rfl rfl) ?_
    refine oC (oLt rfl rfl rfl) ?_
    refine oN ?_
    refine aC rfl (fun h => ?_) (fun h => ?_)
    rotate_left
    · simp at h
    refine aW ?_
    refine aS (aB ?_)
    have hx : ([a, b, c, d] : List Nod)[3]? = some d := rfl
    refine dS ?_
    refine dC (oF f26_1_WrldS rfl rfl) ?_
    refine dC (oD ty23_NRef rfl rfl rfl) ?_
    refine dC (oF f26_1 rfl rfl) ?_
    refine dC (oD ty23 rfl rfl rfl) ?_
    refine dC (oM rfl (Conv.of rfl) rfl) ?_
    refine dC (op_ix sl23 rfl rfl rfl (by omega) hx) ?_
    refine dC (oDR ty90 rfl rfl) ?_
    refine dC (oL fb130 (.cons rfl (Conv.of rfl) (.nil _)) (l12Copy_ct d hd.l' hd.v) (aK rfl rfl aK0) rfl rfl) ?_
    refine dC (op_bsm (s := 27) (d := 28) (o := 34) sl23_NodS z90_NodS rfl rfl rfl (by decide) rfl) ?_
    refine dC (op_apMA (o := 13) (o2 := 34) (o' := 1) sl23_NodS z90_NodS ul23 rfl rfl rfl rfl rfl rfl (by simp) (by simp) (by simp) rfl) ?_
    refine dC (oF f26_1_WrldS rfl rfl) ?_
    refine dC (op_st ty23_NRef rfl rfl (Conv.of rfl) rfl) ?_
    refine dr_nil mixed rfl ?_
    refine aR ?_
    refine oC (oM rfl (Conv.of rfl) rfl) ?_
    refine oC (oP rfl rfl rfl (by omega)) ?_
    refine oC (oA rfl (Conv.of rfl) rfl) ?_
    refine oN ?_
    repeat first | refine nS ?_ | refine nB ?_
    exact ⟨0, _, by decide, .inr (.inr (.inr (.inr (⟨rfl, rfl⟩)))), Le.mk rfl (tlb rfl rfl rfl (tlb rfl rfl rfl (tlb rfl rfl rfl (tle rfl (rfl) rfl tln)))) (olk rfl (by exact obOkS rfl) (olk rfl (by exact obOkS0) (olk rfl (by exact bC) (olk rfl (by exact bN) oln)))) noS⟩
  · refine aS (aS (aR ?_))
    refine oC (oM rfl (Conv.of rfl) rfl) ?_
    refine oC (oF f26_1 rfl rfl) ?_
    refine oC (oD ty23 rfl rfl rfl) ?_
    refine oC (oE sl23 rfl rfl) ?_
    refine oC (oLt rfl rfl rfl) ?_
    refine oN ?_
    refine aC rfl (fun h => ?_) (fun h => ?_)
    · simp at h
    refine aE ?_
    repeat refine ex_seq ?_
    refine eB ?_
    refine aS (aR ?_)
    refine oC (op_ldm ty26_WrldS rfl rfl rfl) ?_
    refine oC (op_stm ty26_WrldS rfl rfl rfl) ?_
    refine oN ?_
    refine aT ?_
    repeat first | refine rS ?_ | refine rB ?_
    refine ⟨_, _, res1C (ol := [(1, .arr ([sN a, sN b, sN c, sN d] : List NodS))]) ty26_WrldS rfl rfl (fun o ho => ?_) (olk rfl bN oln) noS, rfl, rfl⟩
    have : o = 1 := by simpa using (show o ∈ [1] from ho)
    subst this; rfl
theorem l21Copy_ct (w : Wrld) (h : FineX w) : Ct Tryz.prog 76 [.v w] noObj (fun r1 h1 => r1 = .v (sW w) ∧ h1 = obs (so w)) := by
  have h4 := h.four
  have hg := h.fine.log
  have hs := h.fine.seen
  obtain ⟨e, ns, l, bd⟩ := w
  match ns, h4 with
  | [a, b, c, d], _ => exact l21Copy4_ct e a b c d l bd hg (hs a (by simp)) (hs b (by simp)) (hs c (by simp)) (hs d (by simp))
end Go.Proofs.YtmhmeppocbcmeaaGreat

/- The reference: what happens in a world, for outsiders; both: a node hears, for outsiders. -/
set_option linter.unusedVariables false
set_option linter.unusedSimpArgs false
namespace Go.Proofs.YtmhmeppocbcmeaaGreat
open Go Go.Wt
def nodeHearR (n : Nod) (v : Vote) : Nod × Vote × Bool := if nodeOk n then hearF n v else (.zero, .zero, false)
end Go.Proofs.YtmhmeppocbcmeaaGreat

/- Drawn nodes. -/
set_option linter.unusedVariables false
set_option linter.unusedSimpArgs false
namespace Go.Wt
open Go
/-- A node of a drawn one's size. -/
structure Ln (n : Nod) : Prop where
  ep : 0 ≤ n.epoch ∧ n.epoch ≤ 30
  sl : n.seen.length ≤ 101
  sc : ∀ v ∈ n.seen, v.chain.length ≤ 30
/-- Which node is drawn. -/
def idF (bad q : Int) : Int := if q = bad then q.tmod 4 + 1 else q
end Go.Wt

/- The reference: drawn nodes. -/
set_option linter.unusedVariables false
set_option linter.unusedSimpArgs false
namespace Go.Proofs.YtmhmeppocbcmeaaGreat
open Go Go.Wt
end Go.Proofs.YtmhmeppocbcmeaaGreat

/- The reference: drawn nodes and votes. -/
set_option linter.unusedVariables false
set_option linter.unusedSimpArgs false
namespace Go.Proofs.YtmhmeppocbcmeaaGreat
open Go Go.Wt
end Go.Proofs.YtmhmeppocbcmeaaGreat

/- Quiet epochs. -/
set_option linter.unusedVariables false
set_option linter.unusedSimpArgs false
namespace Go.Proofs.YtmhmeppocbcmeaaGreat
open Go Go.Wt
end Go.Proofs.YtmhmeppocbcmeaaGreat

/- Books. -/
set_option linter.unusedVariables false
set_option linter.unusedSimpArgs false
namespace Go.Proofs.YtmhmeppocbcmeaaGreat
open Go Go.Wt
def rep3 (k : Nat) : List Int := List.replicate k 9 ++ List.replicate (3 - k) 0
end Go.Proofs.YtmhmeppocbcmeaaGreat

/- The books of nodes. -/
set_option linter.unusedVariables false
set_option linter.unusedSimpArgs false
namespace Go.Proofs.YtmhmeppocbcmeaaGreat
open Go Go.Wt
end Go.Proofs.YtmhmeppocbcmeaaGreat

/- The reference: what all have by a node. -/
set_option linter.unusedVariables false
set_option linter.unusedSimpArgs false
namespace Go.Proofs.YtmhmeppocbcmeaaGreat
open Go Go.Wt
theorem l11FinalIn_ct (c : List Itm) (hc : ∀ x ∈ c, 0 ≤ x.epoch ∧ x.epoch ≤ 1000000) : CtP Tryz.prog 94 [.v c] (.v (finLen c)) := by
  have hep : ∀ (i : Nat) (hi : i < c.length), 0 ≤ c[i].epoch ∧ c[i].epoch ≤ 1000000 := fun i hi => hc _ (List.getElem_mem hi)
  refine Ct.intro Tryz.func94 rfl rfl ?_
  refine awp_bigL 0 rfl (fun hB => ?_)
  all_goals first | refine aS (aR ?_) | refine aS (aS (aR ?_)) | refine aR ?_ | refine aS (aS (aS (aR ?_)))
  all_goals refine oC (oA rfl (Conv.of rfl) rfl) ?_
  all_goals refine oN ?_
  all_goals first | refine aS (aR ?_) | refine aS (aS (aR ?_)) | refine aR ?_ | refine aS (aS (aS (aR ?_)))
  all_goals first | refine oC (oM rfl (Conv.of rfl) rfl) ?_ | refine oC (op_mvl rfl rfl rfl rfl) ?_ | refine oC (op_mvo rfl rfl rfl rfl) ?_
  all_goals first | refine oC (oE sl27 rfl rfl) ?_ | refine oC (oEA sl27 rfl rfl rfl) ?_
  all_goals refine oC (op_sub rfl rfl rfl (by omega)) ?_
  all_goals first | refine oC (oA rfl (Conv.of rfl) rfl) ?_ | refine oC (op_asl rfl rfl rfl rfl) ?_ | refine oC (op_aso rfl rfl rfl rfl) ?_
  all_goals refine oN ?_
  first | refine aS (aB ?_) | refine aS (aS (aB ?_)) | refine aB ?_ | refine aS (aS (aS (aB ?_)))
  first | refine aS (awp_loop' (fun n_ s => ∃ (k : Nat), ∃ (hn : n_ = k), ∃ (hk : k ≤ c.length), ∃ (hall : finLen c = finFrom c k), s = mkSt 41 [(0, .v c), (3, .v ((k : Int) - 1))] []) (c.length) ⟨c.length, rfl, Nat.le_refl _, rfl, rfl⟩ (Le.mk rfl (tle rfl (rfl) rfl (tle rfl (by first | rfl | (show AV.v _ = AV.v _; congr 1; omega)) rfl tln)) oln noS) ?_) | refine aS (aS (awp_loop' (fun n_ s => ∃ (k : Nat), ∃ (hn : n_ = k), ∃ (hk : k ≤ c.length), ∃ (hall : finLen c = finFrom c k), s = mkSt 41 [(0, .v c), (3, .v ((k : Int) - 1))] []) (c.length) ⟨c.length, rfl, Nat.le_refl _, rfl, rfl⟩ (Le.mk rfl (tle rfl (rfl) rfl (tle rfl (by first | rfl | (show AV.v _ = AV.v _; congr 1; omega)) rfl tln)) oln noS) ?_)) | refine awp_loop' (fun n_ s => ∃ (k : Nat), ∃ (hn : n_ = k), ∃ (hk : k ≤ c.length), ∃ (hall : finLen c = finFrom c k), s = mkSt 41 [(0, .v c), (3, .v ((k : Int) - 1))] []) (c.length) ⟨c.length, rfl, Nat.le_refl _, rfl, rfl⟩ (Le.mk rfl (tle rfl (rfl) rfl (tle rfl (by first | rfl | (show AV.v _ = AV.v _; congr 1; omega)) rfl tln)) oln noS) ?_ | refine aS (aS (aS (awp_loop' (fun n_ s => ∃ (k : Nat), ∃ (hn : n_ = k), ∃ (hk : k ≤ c.length), ∃ (hall : finLen c = finFrom c k), s = mkSt 41 [(0, .v c), (3, .v ((k : Int) - 1))] []) (c.length) ⟨c.length, rfl, Nat.le_refl _, rfl, rfl⟩ (Le.mk rfl (tle rfl (rfl) rfl (tle rfl (by first | rfl | (show AV.v _ = AV.v _; congr 1; omega)) rfl tln)) oln noS) ?_)))
  rintro n_ s ⟨k, hn, hk, hall, rfl⟩
  all_goals first | refine aS (aR ?_) | refine aS (aS (aR ?_)) | refine aR ?_ | refine aS (aS (aS (aR ?_)))
  all_goals first | refine oC (oM rfl (Conv.of rfl) rfl) ?_ | refine oC (op_mvl rfl rfl rfl rfl) ?_ | refine oC (op_mvo rfl rfl rfl rfl) ?_
  all_goals refine oC (op_geq rfl rfl rfl) ?_
  all_goals refine oN ?_
  first | refine aS (aC rfl (fun h => ?_) (fun h => ?_)) | refine aS (aS (aC rfl (fun h => ?_) (fun h => ?_))) | refine aC rfl (fun h => ?_) (fun h => ?_) | refine aS (aS (aS (aC rfl (fun h => ?_) (fun h => ?_))))
  · obtain ⟨m, rfl⟩ : ∃ m, k = m + 3 := ⟨k - 3, by simp at h; omega⟩
    have h1 : (((m + 3 : Nat) : Int) - 1 - 2).toNat = m := by omega
    have h2 : (((m + 3 : Nat) : Int) - 1 - 1).toNat = m + 1 := by omega
    have h3 : (((m + 3 : Nat) : Int) - 1).toNat = m + 2 := by omega
    have hx : c[(((m + 3 : Nat) : Int) - 1 - 2).toNat]? = some (c[m]'(by omega)) := by rw [h1]; exact List.getElem?_eq_getElem _
    have hy : c[(((m + 3 : Nat) : Int) - 1 - 1).toNat]? = some (c[m + 1]'(by omega)) := by rw [h2]; exact List.getElem?_eq_getElem _
    have hz : c[(((m + 3 : Nat) : Int) - 1).toNat]? = some (c[m + 2]'(by omega)) := by rw [h3]; exact List.getElem?_eq_getElem _
    have e1 := hep m (by omega)
    have e2 := hep (m + 1) (by omega)
    have e3 := hep (m + 2) (by omega)
    refine aW ?_
    first | refine aS (aB ?_) | refine aS (aS (aB ?_)) | refine aB ?_ | refine aS (aS (aS (aB ?_)))
    first | refine aS (aS (aS (aST (s' := mkSt 41 [(0, .v c), (3, .v (((m + 3 : Nat) : Int) - 1)), (39, .v (decide ((c[m]'(by omega)).epoch + 1 = (c[m + 1]'(by omega)).epoch) && decide ((c[m + 1]'(by omega)).epoch + 1 = (c[m + 2]'(by omega)).epoch)))] []) ?_ ?_))) | refine aS (aS (aST (s' := mkSt 41 [(0, .v c), (3, .v (((m + 3 : Nat) : Int) - 1)), (39, .v (decide ((c[m]'(by omega)).epoch + 1 = (c[m + 1]'(by omega)).epoch) && decide ((c[m + 1]'(by omega)).epoch + 1 = (c[m + 2]'(by omega)).epoch)))] []) ?_ ?_)) | refine aS (aST (s' := mkSt 41 [(0, .v c), (3, .v (((m + 3 : Nat) : Int) - 1)), (39, .v (decide ((c[m]'(by omega)).epoch + 1 = (c[m + 1]'(by omega)).epoch) && decide ((c[m + 1]'(by omega)).epoch + 1 = (c[m + 2]'(by omega)).epoch)))] []) ?_ ?_) | refine aST (s' := mkSt 41 [(0, .v c), (3, .v (((m + 3 : Nat) : Int) - 1)), (39, .v (decide ((c[m]'(by omega)).epoch + 1 = (c[m + 1]'(by omega)).epoch) && decide ((c[m + 1]'(by omega)).epoch + 1 = (c[m + 2]'(by omega)).epoch)))] []) ?_ ?_ | refine awp_toB (s' := mkSt 41 [(0, .v c), (3, .v (((m + 3 : Nat) : Int) - 1)), (39, .v (decide ((c[m]'(by omega)).epoch + 1 = (c[m + 1]'(by omega)).epoch) && decide ((c[m + 1]'(by omega)).epoch + 1 = (c[m + 2]'(by omega)).epoch)))] []) ?_ ?_ | refine awp_to (s' := mkSt 41 [(0, .v c), (3, .v (((m + 3 : Nat) : Int) - 1)), (39, .v (decide ((c[m]'(by omega)).epoch + 1 = (c[m + 1]'(by omega)).epoch) && decide ((c[m + 1]'(by omega)).epoch + 1 = (c[m + 2]'(by omega)).epoch)))] []) ?_ ?_
    · all_goals first | refine aS (dS ?_) | refine aS (aS (dS ?_)) | refine dS ?_ | refine aS (aS (aS (dS ?_)))
      all_goals first | refine dC (oM rfl (Conv.of rfl) rfl) ?_ | refine dC (op_mvl rfl rfl rfl rfl) ?_ | refine dC (op_mvo rfl rfl rfl rfl) ?_
      all_goals first | refine dC (oM rfl (Conv.of rfl) rfl) ?_ | refine dC (op_mvl rfl rfl rfl rfl) ?_ | refine dC (op_mvo rfl rfl rfl rfl) ?_
      all_goals refine dC (op_sub rfl rfl rfl (by omega)) ?_
      all_goals first | refine dC (op_ix sl27 rfl rfl rfl (by omega) hx) ?_ | refine dC (op_ixA sl27 rfl rfl rfl rfl (by omega)) ?_
      all_goals first | refine dC (oF f143_0 rfl rfl) ?_ | refine dC (oFR f143_0 rfl rfl) ?_ | refine dC (oFE f143_0 rfl rfl) ?_
      all_goals first | refine dC (oD ty3 rfl rfl rfl) ?_ | refine dC (oDR ty3 rfl rfl) ?_ | refine dC (op_lde ty3 rfl rfl (by assumption) rfl) ?_ | refine dC (op_ldl ty3 rfl rfl rfl) ?_ | refine dC (op_ldd ty3 rfl rfl rfl) ?_ | refine dC (op_ldde ty3 rfl rfl (by assumption) rfl) ?_
      all_goals refine dC (oP rfl rfl rfl (by omega)) ?_
      all_goals first | refine dC (oM rfl (Conv.of rfl) rfl) ?_ | refine dC (op_mvl rfl rfl rfl rfl) ?_ | refine dC (op_mvo rfl rfl rfl rfl) ?_
      all_goals first | refine dC (oM rfl (Conv.of rfl) rfl) ?_ | refine dC (op_mvl rfl rfl rfl rfl) ?_ | refine dC (op_mvo rfl rfl rfl rfl) ?_
      all_goals refine dC (op_sub rfl rfl rfl (by omega)) ?_
      all_goals first | refine dC (op_ix sl27 rfl rfl rfl (by omega) hy) ?_ | refine dC (op_ixA sl27 rfl rfl rfl rfl (by omega)) ?_
      all_goals first | refine dC (oF f143_0 rfl rfl) ?_ | refine dC (oFR f143_0 rfl rfl) ?_ | refine dC (oFE f143_0 rfl rfl) ?_
      all_goals first | refine dC (oD ty3 rfl rfl rfl) ?_ | refine dC (oDR ty3 rfl rfl) ?_ | refine dC (op_lde ty3 rfl rfl (by assumption) rfl) ?_ | refine dC (op_ldl ty3 rfl rfl rfl) ?_ | refine dC (op_ldd ty3 rfl rfl rfl) ?_ | refine dC (op_ldde ty3 rfl rfl (by assumption) rfl) ?_
      all_goals refine dC (op_eql rfl rfl rfl) ?_
      all_goals first | refine dC (oM rfl (Conv.of rfl) rfl) ?_ | refine dC (op_mvl rfl rfl rfl rfl) ?_ | refine dC (op_mvo rfl rfl rfl rfl) ?_
      all_goals first | refine dr_lit (t := 25) (b := true) rfl ?_ | refine dr_lit (t := 25) (b := false) rfl ?_ | refine dr_ulit (t := 25) rfl ?_ | refine dr_split (t := 25) rfl (fun h => ?_) (fun h => ?_)
      all_goals first | refine dC (gF rfl rfl rfl rfl rfl) ?_ | refine dC (g_und rfl rfl rfl) ?_ | refine dC (gN rfl rfl rfl (oM rfl (Conv.of rfl) rfl)) ?_ | refine dC (gN rfl rfl rfl (op_mvl rfl rfl rfl rfl)) ?_ | refine dC (gN rfl rfl rfl (op_mvo rfl rfl rfl rfl)) ?_
      all_goals first | refine dC (gF rfl rfl rfl rfl rfl) ?_ | refine dC (g_und rfl rfl rfl) ?_ | refine dC (gN rfl rfl rfl (oM rfl (Conv.of rfl) rfl)) ?_ | refine dC (gN rfl rfl rfl (op_mvl rfl rfl rfl rfl)) ?_ | refine dC (gN rfl rfl rfl (op_mvo rfl rfl rfl rfl)) ?_
      all_goals first | refine dC (gF rfl rfl rfl rfl rfl) ?_ | refine dC (g_und rfl rfl rfl) ?_ | refine dC (gN rfl rfl rfl (op_sub rfl rfl rfl (by omega))) ?_
      all_goals first | refine dC (gF rfl rfl rfl rfl rfl) ?_ | refine dC (g_und rfl rfl rfl) ?_ | refine dC (gN rfl rfl rfl (op_ix sl27 rfl rfl rfl (by omega) hy)) ?_ | refine dC (gN rfl rfl rfl (op_ixA sl27 rfl rfl rfl rfl (by omega))) ?_
      all_goals first | refine dC (gF rfl rfl rfl rfl rfl) ?_ | refine dC (g_und rfl rfl rfl) ?_ | refine dC (gN rfl rfl rfl (oF f143_0 rfl rfl)) ?_ | refine dC (gN rfl rfl rfl (oFR f143_0 rfl rfl)) ?_ | refine dC (gN rfl rfl rfl (oFE f143_0 rfl rfl)) ?_
      all_goals first | refine dC (gF rfl rfl rfl rfl rfl) ?_ | refine dC (g_und rfl rfl rfl) ?_ | refine dC (gN rfl rfl rfl (oD ty3 rfl rfl rfl)) ?_ | refine dC (gN rfl rfl rfl (oDR ty3 rfl rfl)) ?_ | refine dC (gN rfl rfl rfl (op_lde ty3 rfl rfl (by assumption) rfl)) ?_ | refine dC (gN rfl rfl rfl (op_ldl ty3 rfl rfl rfl)) ?_ | refine dC (gN rfl rfl rfl (op_ldd ty3 rfl rfl rfl)) ?_ | refine dC (gN rfl rfl rfl (op_ldde ty3 rfl rfl (by assumption) rfl)) ?_
      all_goals first | refine dC (gF rfl rfl rfl rfl rfl) ?_ | refine dC (g_und rfl rfl rfl) ?_ | refine dC (gN rfl rfl rfl (oP rfl rfl rfl (by omega))) ?_
      all_goals first | refine dC (gF rfl rfl rfl rfl rfl) ?_ | refine dC (g_und rfl rfl rfl) ?_ | refine dC (gN rfl rfl rfl (oM rfl (Conv.of rfl) rfl)) ?_ | refine dC (gN rfl rfl rfl (op_mvl rfl rfl rfl rfl)) ?_ | refine dC (gN rfl rfl rfl (op_mvo rfl rfl rfl rfl)) ?_
      all_goals first | refine dC (gF rfl rfl rfl rfl rfl) ?_ | refine dC (g_und rfl rfl rfl) ?_ | refine dC (gN rfl rfl rfl (oM rfl (Conv.of rfl) rfl)) ?_ | refine dC (gN rfl rfl rfl (op_mvl rfl rfl rfl rfl)) ?_ | refine dC (gN rfl rfl rfl (op_mvo rfl rfl rfl rfl)) ?_
      all_goals first | refine dC (gF rfl rfl rfl rfl rfl) ?_ | refine dC (g_und rfl rfl rfl) ?_ | refine dC (gN rfl rfl rfl (op_ix sl27 rfl rfl rfl (by omega) hz)) ?_ | refine dC (gN rfl rfl rfl (op_ixA sl27 rfl rfl rfl rfl (by omega))) ?_
      all_goals first | refine dC (gF rfl rfl rfl rfl rfl) ?_ | refine dC (g_und rfl rfl rfl) ?_ | refine dC (gN rfl rfl rfl (oF f143_0 rfl rfl)) ?_ | refine dC (gN rfl rfl rfl (oFR f143_0 rfl rfl)) ?_ | refine dC (gN rfl rfl rfl (oFE f143_0 rfl rfl)) ?_
      all_goals first | refine dC (gF rfl rfl rfl rfl rfl) ?_ | refine dC (g_und rfl rfl rfl) ?_ | refine dC (gN rfl rfl rfl (oD ty3 rfl rfl rfl)) ?_ | refine dC (gN rfl rfl rfl (oDR ty3 rfl rfl)) ?_ | refine dC (gN rfl rfl rfl (op_lde ty3 rfl rfl (by assumption) rfl)) ?_ | refine dC (gN rfl rfl rfl (op_ldl ty3 rfl rfl rfl)) ?_ | refine dC (gN rfl rfl rfl (op_ldd ty3 rfl rfl rfl)) ?_ | refine dC (gN rfl rfl rfl (op_ldde ty3 rfl rfl (by assumption) rfl)) ?_
      all_goals first | refine dC (gF rfl rfl rfl rfl rfl) ?_ | refine dC (g_und rfl rfl rfl) ?_ | refine dC (gN rfl rfl rfl (op_eql rfl rfl rfl)) ?_
      all_goals refine dC (oQ rfl rfl rfl rfl) ?_
      all_goals refine dr_nil mixed rfl ?_
      all_goals exact Le.mk rfl (tle rfl (rfl) rfl (tle rfl (rfl) rfl (tle rfl (by first | rfl | (clear hall; simp_all; try (rw [Bool.eq_iff_iff]; simp))) rfl tln))) oln noS
    have hstep : finFrom c (m + 3) = if (decide ((c[m]'(by omega)).epoch + 1 = (c[m + 1]'(by omega)).epoch) && decide ((c[m + 1]'(by omega)).epoch + 1 = (c[m + 2]'(by omega)).epoch)) then ((m + 2 : Nat) : Int) else finFrom c (m + 2) := by
      have g1 : c[m]? = some (c[m]'(by omega)) := List.getElem?_eq_getElem _
      have g2 : c[m + 1]? = some (c[m + 1]'(by omega)) := List.getElem?_eq_getElem _
      have g3 : c[m + 2]? = some (c[m + 2]'(by omega)) := List.getElem?_eq_getElem _
      show (if _ then _ else _) = _
      simp only [show m + 2 - 2 = m by omega, show m + 2 - 1 = m + 1 by omega, g1, g2, g3, show (2 < m + 2 + 1) = True by simp, decide_true, Bool.true_and]
    first | refine aS (aC rfl (fun hb => ?_) (fun hb => ?_)) | refine aS (aS (aC rfl (fun hb => ?_) (fun hb => ?_))) | refine aC rfl (fun hb => ?_) (fun hb => ?_) | refine aS (aS (aS (aC rfl (fun hb => ?_) (fun hb => ?_))))
    · all_goals first | refine aS (aR ?_) | refine aS (aS (aR ?_)) | refine aR ?_ | refine aS (aS (aS (aR ?_)))
      all_goals first | refine oC (oM rfl (Conv.of rfl) rfl) ?_ | refine oC (op_mvl rfl rfl rfl rfl) ?_ | refine oC (op_mvo rfl rfl rfl rfl) ?_
      all_goals first | refine oC (oA rfl (Conv.of rfl) rfl) ?_ | refine oC (op_asl rfl rfl rfl rfl) ?_ | refine oC (op_aso rfl rfl rfl rfl) ?_
      all_goals refine oN ?_
      refine aT ?_
      repeat first | refine rS ?_ | refine rB ?_
      refine finP (.v rfl (Conv.of rfl)) rfl ?_
      show AV.v _ = _
      rw [hall, hstep, hb, if_pos rfl, show ((m + 3 : Nat) : Int) - 1 = ((m + 2 : Nat) : Int) by omega]
    · refine aW ?_
      all_goals first | refine aS (aR ?_) | refine aS (aS (aR ?_)) | refine aR ?_ | refine aS (aS (aS (aR ?_)))
      all_goals first | refine oC (oM rfl (Conv.of rfl) rfl) ?_ | refine oC (op_mvl rfl rfl rfl rfl) ?_ | refine oC (op_mvo rfl rfl rfl rfl) ?_
      all_goals refine oC (op_sub rfl rfl rfl (by omega)) ?_
      all_goals first | refine oC (oA rfl (Conv.of rfl) rfl) ?_ | refine oC (op_asl rfl rfl rfl rfl) ?_ | refine oC (op_aso rfl rfl rfl rfl) ?_
      all_goals refine oN ?_
      repeat first | refine nS ?_ | refine nB ?_
      exact ⟨m + 2, _, by omega, ⟨m + 2, rfl, by omega, by rw [hall, hstep, hb]; rfl, rfl⟩, Le.mk rfl (tle rfl (rfl) rfl (tle rfl (by first | rfl | (show AV.v _ = AV.v _; congr 1; omega)) rfl tln)) oln noS⟩
  · refine aE ?_
    repeat refine ex_seq ?_
    refine eB ?_
    have hk2 : k ≤ 2 := by simp at h; omega
    all_goals first | refine aS (aR ?_) | refine aS (aS (aR ?_)) | refine aR ?_ | refine aS (aS (aS (aR ?_)))
    all_goals refine oC (oA rfl (Conv.of rfl) rfl) ?_
    all_goals refine oN ?_
    refine aT ?_
    repeat first | refine rS ?_ | refine rB ?_
    refine finP (.v rfl (Conv.of rfl)) rfl ?_
    show AV.v (0 : Int) = _
    rw [hall]
    match k, hk2 with
    | 0, _ => rfl
    | 1, _ => rfl
    | 2, _ => rfl
theorem l11Final_ct (l : List Vote) (hg : Gd l) : CtP Tryz.prog 93 [.v l] (.v (finalS l)) := by
  have hall : (allOfS l).length ≤ 100001 := by
    have h1 := allStepS_len l l [[]]
    have h2 := hg.l
    simp at h1; unfold allOfS; omega
  refine Ct.intro Tryz.func93 rfl rfl ?_
  first | refine aS (aR ?_) | refine aS (aS (aR ?_)) | refine aR ?_ | refine aS (aS (aS (aR ?_)))
  refine oC (oA rfl (Conv.of rfl) rfl) ?_
  refine oN ?_
  first | refine aS (aR ?_) | refine aS (aS (aR ?_)) | refine aR ?_ | refine aS (aS (aS (aR ?_)))
  first | refine oC (oM rfl (Conv.of rfl) rfl) ?_ | refine oC (op_mvl rfl rfl rfl rfl) ?_ | refine oC (op_mvo rfl rfl rfl rfl) ?_
  refine oC (oL fb92 (.cons rfl (Conv.of rfl) (.nil _)) (l11All_ct l hg.l hg.v) (aK rfl rfl aK0) rfl rfl) ?_
  refine oC (oA rfl Conv.ol rfl) ?_
  refine oN ?_
  first | refine aS (aR ?_) | refine aS (aS (aR ?_)) | refine aR ?_ | refine aS (aS (aS (aR ?_)))
  refine oC (op_bsl sl27 z143 (.nil _) rfl (by decide) rfl) ?_
  refine oC (oA rfl Conv.ol rfl) ?_
  refine oN ?_
  first | refine aS (aR ?_) | refine aS (aS (aR ?_)) | refine aR ?_ | refine aS (aS (aS (aR ?_)))
  refine oC (oA rfl (Conv.of rfl) rfl) ?_
  refine oN ?_
  first | refine aS (aB ?_) | refine aS (aS (aB ?_)) | refine aB ?_ | refine aS (aS (aS (aB ?_)))
  first | refine aS (awp_loop' (fun n_ s => ∃ (k : Nat), ∃ (hn : n_ + k = (allOfS l).length), s = mkSt 33 [(3, .v (allOfS l)), (4, .v (((allOfS l).take k).foldl finStepS [])), (5, .v (k : Int))] []) ((allOfS l).length) ⟨0, by omega, rfl⟩ (Le.mk rfl (tle rfl (rfl) rfl (tle rfl (by first | rfl | (first | rfl | rw [foldl_at _ _ hx]; simp only [finStepS, hb'']; try rfl)) rfl (tle rfl (rfl) rfl tln))) oln noS) ?_) | refine aS (aS (awp_loop' (fun n_ s => ∃ (k : Nat), ∃ (hn : n_ + k = (allOfS l).length), s = mkSt 33 [(3, .v (allOfS l)), (4, .v (((allOfS l).take k).foldl finStepS [])), (5, .v (k : Int))] []) ((allOfS l).length) ⟨0, by omega, rfl⟩ (Le.mk rfl (tle rfl (rfl) rfl (tle rfl (by first | rfl | (first | rfl | rw [foldl_at _ _ hx]; simp only [finStepS, hb'']; try rfl)) rfl (tle rfl (rfl) rfl tln))) oln noS) ?_)) | refine awp_loop' (fun n_ s => ∃ (k : Nat), ∃ (hn : n_ + k = (allOfS l).length), s = mkSt 33 [(3, .v (allOfS l)), (4, .v (((allOfS l).take k).foldl finStepS [])), (5, .v (k : Int))] []) ((allOfS l).length) ⟨0, by omega, rfl⟩ (Le.mk rfl (tle rfl (rfl) rfl (tle rfl (by first | rfl | (first | rfl | rw [foldl_at _ _ hx]; simp only [finStepS, hb'']; try rfl)) rfl (tle rfl (rfl) rfl tln))) oln noS) ?_ | refine aS (aS (aS (awp_loop' (fun n_ s => ∃ (k : Nat), ∃ (hn : n_ + k = (allOfS l).length), s = mkSt 33 [(3, .v (allOfS l)), (4, .v (((allOfS l).take k).foldl finStepS [])), (5, .v (k : Int))] []) ((allOfS l).length) ⟨0, by omega, rfl⟩ (Le.mk rfl (tle rfl (rfl) rfl (tle rfl (by first | rfl | (first | rfl | rw [foldl_at _ _ hx]; simp only [finStepS, hb'']; try rfl)) rfl (tle rfl (rfl) rfl tln))) oln noS) ?_)))
  rintro n_ s ⟨k, hn, rfl⟩
  first | refine aS (aR ?_) | refine aS (aS (aR ?_)) | refine aR ?_ | refine aS (aS (aS (aR ?_)))
  first | refine oC (oM rfl (Conv.of rfl) rfl) ?_ | refine oC (op_mvl rfl rfl rfl rfl) ?_ | refine oC (op_mvo rfl rfl rfl rfl) ?_
  first | refine oC (oM rfl (Conv.of rfl) rfl) ?_ | refine oC (op_mvl rfl rfl rfl rfl) ?_ | refine oC (op_mvo rfl rfl rfl rfl) ?_
  first | refine oC (oE sl133 rfl rfl) ?_ | refine oC (oEA sl133 rfl rfl rfl) ?_
  refine oC (oLt rfl rfl rfl) ?_
  refine oN ?_
  first | refine aS (aC rfl (fun h => ?_) (fun h => ?_)) | refine aS (aS (aC rfl (fun h => ?_) (fun h => ?_))) | refine aC rfl (fun h => ?_) (fun h => ?_) | refine aS (aS (aS (aC rfl (fun h => ?_) (fun h => ?_))))
  · have hlt : k < (allOfS l).length := by simpa using h
    have hx : (allOfS l)[k]? = some (allOfS l)[k] := List.getElem?_eq_getElem hlt
    have hm := List.getElem_mem hlt
    have hce : ∀ x ∈ (allOfS l)[k], 0 ≤ x.epoch ∧ x.epoch ≤ 1000000 := by
      rcases allOfS_at hm with e | ⟨v, h1, h2⟩
      · rw [e]; intro x hx; cases hx
      · rw [← h2]; exact hg.e v h1
    have hcl : ((allOfS l)[k]).length ≤ 1000000 := by
      rcases allOfS_at hm with e | ⟨v, h1, h2⟩
      · rw [e]; simp
      · rw [← h2]; exact hg.v v h1
    have hfb := finLen_bd (allOfS l)[k]
    refine aW ?_
    first | refine aS (aB ?_) | refine aS (aS (aB ?_)) | refine aB ?_ | refine aS (aS (aS (aB ?_)))
    first | refine aS (aR ?_) | refine aS (aS (aR ?_)) | refine aR ?_ | refine aS (aS (aS (aR ?_)))
    first | refine oC (oM rfl (Conv.of rfl) rfl) ?_ | refine oC (op_mvl rfl rfl rfl rfl) ?_ | refine oC (op_mvo rfl rfl rfl rfl) ?_
    first | refine oC (oM rfl (Conv.of rfl) rfl) ?_ | refine oC (op_mvl rfl rfl rfl rfl) ?_ | refine oC (op_mvo rfl rfl rfl rfl) ?_
    first | refine oC (op_ix sl133 rfl rfl rfl (by omega) hx) ?_ | refine oC (op_ixA sl133 rfl rfl rfl rfl (by omega)) ?_
    first | refine oC (oD ty27 rfl rfl rfl) ?_ | refine oC (oDR ty27 rfl rfl) ?_ | refine oC (op_lde ty27 rfl rfl (by assumption) rfl) ?_ | refine oC (op_ldl ty27 rfl rfl rfl) ?_ | refine oC (op_ldd ty27 rfl rfl rfl) ?_ | refine oC (op_ldde ty27 rfl rfl (by assumption) rfl) ?_
    refine oC (oL fb94 (.cons rfl (Conv.of rfl) (.nil _)) (l11FinalIn_ct _ hce) (aK rfl rfl aK0) rfl rfl) ?_
    first | refine oC (oA rfl (Conv.of rfl) rfl) ?_ | refine oC (op_asl rfl rfl rfl rfl) ?_ | refine oC (op_aso rfl rfl rfl rfl) ?_
    refine oN ?_
    first | refine aS (aR ?_) | refine aS (aS (aR ?_)) | refine aR ?_ | refine aS (aS (aS (aR ?_)))
    first | refine oC (oM rfl (Conv.of rfl) rfl) ?_ | refine oC (op_mvl rfl rfl rfl rfl) ?_ | refine oC (op_mvo rfl rfl rfl rfl) ?_
    first | refine oC (oM rfl (Conv.of rfl) rfl) ?_ | refine oC (op_mvl rfl rfl rfl rfl) ?_ | refine oC (op_mvo rfl rfl rfl rfl) ?_
    first | refine oC (oE sl27 rfl rfl) ?_ | refine oC (oEA sl27 rfl rfl rfl) ?_
    refine oC (op_gtr rfl rfl rfl) ?_
    refine oN ?_
    first | refine aS (aC rfl (fun hb => ?_) (fun hb => ?_)) | refine aS (aS (aC rfl (fun hb => ?_) (fun hb => ?_))) | refine aC rfl (fun hb => ?_) (fun hb => ?_) | refine aS (aS (aS (aC rfl (fun hb => ?_) (fun hb => ?_))))
    · have hb'' : decide (((((allOfS l).take k).foldl finStepS []).length : Int) < finLen (allOfS l)[k]) = true := by simp at hb ⊢; omega
      first | refine aS (aR ?_) | refine aS (aS (aR ?_)) | refine aR ?_ | refine aS (aS (aS (aR ?_)))
      first | refine oC (oM rfl (Conv.of rfl) rfl) ?_ | refine oC (op_mvl rfl rfl rfl rfl) ?_ | refine oC (op_mvo rfl rfl rfl rfl) ?_
      first | refine oC (oM rfl (Conv.of rfl) rfl) ?_ | refine oC (op_mvl rfl rfl rfl rfl) ?_ | refine oC (op_mvo rfl rfl rfl rfl) ?_
      first | refine oC (op_ix sl133 rfl rfl rfl (by omega) hx) ?_ | refine oC (op_ixA sl133 rfl rfl rfl rfl (by omega)) ?_
      first | refine oC (oD ty27 rfl rfl rfl) ?_ | refine oC (oDR ty27 rfl rfl) ?_ | refine oC (op_lde ty27 rfl rfl (by assumption) rfl) ?_ | refine oC (op_ldl ty27 rfl rfl rfl) ?_ | refine oC (op_ldd ty27 rfl rfl rfl) ?_ | refine oC (op_ldde ty27 rfl rfl (by assumption) rfl) ?_
      first | refine oC (oM rfl (Conv.of rfl) rfl) ?_ | refine oC (op_mvl rfl rfl rfl rfl) ?_ | refine oC (op_mvo rfl rfl rfl rfl) ?_
      refine oC (op_slh sl27 rfl rfl rfl (by omega)) ?_
      refine oC (oL fb107 (.cons rfl (Conv.of rfl) (.nil _)) (l1Copy_ct _ (by rw [List.length_take]; omega)) (aK rfl rfl aK0) rfl rfl) ?_
      refine oC (oA rfl Conv.ol rfl) ?_
      refine oN ?_
      first | refine aS (aR ?_) | refine aS (aS (aR ?_)) | refine aR ?_ | refine aS (aS (aS (aR ?_)))
      first | refine oC (oM rfl (Conv.of rfl) rfl) ?_ | refine oC (op_mvl rfl rfl rfl rfl) ?_ | refine oC (op_mvo rfl rfl rfl rfl) ?_
      refine oC (oP rfl rfl rfl (by omega)) ?_
      first | refine oC (oA rfl (Conv.of rfl) rfl) ?_ | refine oC (op_asl rfl rfl rfl rfl) ?_ | refine oC (op_aso rfl rfl rfl rfl) ?_
      refine oN ?_
      repeat first | refine nS ?_ | refine nB ?_
      exact ⟨n_ - 1, _, by omega, ⟨k + 1, by omega, rfl⟩, Le.mk rfl (tle rfl (rfl) rfl (tle rfl (by first | rfl | (first | rfl | rw [foldl_at _ _ hx]; simp only [finStepS, hb'']; try rfl)) rfl (tle rfl (rfl) rfl tln))) oln noS⟩
    · have hb'' : decide (((((allOfS l).take k).foldl finStepS []).length : Int) < finLen (allOfS l)[k]) = false := by simp at hb ⊢; omega
      refine aW ?_
      first | refine aS (aR ?_) | refine aS (aS (aR ?_)) | refine aR ?_ | refine aS (aS (aS (aR ?_)))
      first | refine oC (oM rfl (Conv.of rfl) rfl) ?_ | refine oC (op_mvl rfl rfl rfl rfl) ?_ | refine oC (op_mvo rfl rfl rfl rfl) ?_
      refine oC (oP rfl rfl rfl (by omega)) ?_
      first | refine oC (oA rfl (Conv.of rfl) rfl) ?_ | refine oC (op_asl rfl rfl rfl rfl) ?_ | refine oC (op_aso rfl rfl rfl rfl) ?_
      refine oN ?_
      repeat first | refine nS ?_ | refine nB ?_
      exact ⟨n_ - 1, _, by omega, ⟨k + 1, by omega, rfl⟩, Le.mk rfl (tle rfl (rfl) rfl (tle rfl (by first | rfl | (first | rfl | rw [foldl_at _ _ hx]; simp only [finStepS, hb'']; try rfl)) rfl (tle rfl (rfl) rfl tln))) oln noS⟩
  · refine aE ?_
    repeat refine ex_seq ?_
    refine eB ?_
    have hk : (allOfS l).length ≤ k := by simpa using h
    first | refine aS (aR ?_) | refine aS (aS (aR ?_)) | refine aR ?_ | refine aS (aS (aS (aR ?_)))
    first | refine oC (oM rfl (Conv.of rfl) rfl) ?_ | refine oC (op_mvl rfl rfl rfl rfl) ?_ | refine oC (op_mvo rfl rfl rfl rfl) ?_
    first | refine oC (oA rfl (Conv.of rfl) rfl) ?_ | refine oC (op_asl rfl rfl rfl rfl) ?_ | refine oC (op_aso rfl rfl rfl rfl) ?_
    refine oN ?_
    refine aT ?_
    repeat first | refine rS ?_ | refine rB ?_
    refine finP (.v rfl (Conv.of rfl)) rfl ?_
    simp only [take_end hk]; rfl
end Go.Proofs.YtmhmeppocbcmeaaGreat

/- The reference: quiet epochs. -/
set_option linter.unusedVariables false
set_option linter.unusedSimpArgs false
namespace Go.Proofs.YtmhmeppocbcmeaaGreat
open Go Go.Wt
set_option maxHeartbeats 1000000 in
theorem sSpread_ct (w : Wrld) (hw : FineX w) : CtO Tryz.prog 77 [.v (sW w)] (so w) (.v (sW (spreadF w))) (so (spreadF w)) := by
  refine Ct.intro Tryz.func77 rfl rfl ?_
  refine aS (aR ?_)
  refine oC (op_boxm (o := 5) ty26_WrldS rfl rfl rfl rfl) ?_
  refine oC (oX (o := 6) z26_WrldS rfl rfl) ?_
  refine oN ?_
  refine aS (aS (aR ?_))
  refine oC (oA rfl (Conv.of rfl) rfl) ?_
  refine oN ?_
  refine aB ?_
  refine awp_loop' (fun n_ s => ∃ (a : Nat), ∃ (x : Wrld), ∃ (hx : FineX x), ∃ (he : sprF (100 - a) a x = spreadF w), ∃ (hn : n_ + a = 100), s = mkSt 21 [(1, .box 5 (IsLens.whole WrldS)), (2, .box 6 (IsLens.whole WrldS)), (3, .v (a : Int))] [(1, .arr (x.nodes.map sN)), (5, .cell (sW x)), (6, .cell WrldS.zero)]) (100) ⟨0, w, hw, rfl, by omega, rfl⟩ (Le.mk rfl (tlb rfl rfl rfl (tlb rfl rfl rfl (tle rfl (rfl) rfl tln))) (olk rfl (by exact bN) (olk rfl (by exact obOkS rfl) (olk rfl (by exact obOkS0) oln))) (hU (a := so w) rfl)) ?_
  rintro n_ s ⟨a, x, hx, he, hn, rfl⟩
  refine aS (aS (aR ?_))
  refine oC (oM rfl (Conv.of rfl) rfl) ?_
  refine oC (oF f26_2_WrldS rfl rfl) ?_
  refine oC (op_ldl ty24_OListVote rfl rfl rfl) ?_
  refine oC (oE sl24 rfl rfl) ?_
  refine oC (oLt rfl rfl rfl) ?_
  refine oN ?_
  refine aC rfl (fun h => ?_) (fun h => ?_)
  · have ha : a < x.log.length := by simpa [sW] using h
    have hll := hx.ll
    refine aW ?_
    refine aS (aB ?_)
    refine aS (aR ?_)
    refine oC (oA rfl (Conv.of rfl) rfl) ?_
    refine oN ?_
    refine awp_toB (s' := mkSt 21 [(1, .box 5 (IsLens.whole WrldS)), (2, .box 6 (IsLens.whole WrldS)), (3, .v (a : Int))] [(1, .arr ((b4 x a).nodes.map sN)), (5, .cell (sW (b4 x a))), (6, .cell WrldS.zero)]) ?_ ?_
    · refine aB ?_
      refine awp_loop' (fun n_ s => ∃ (k : Nat), ∃ (hk : n_ + k = 4), s = mkSt 21 [(1, .box 5 (IsLens.whole WrldS)), (2, .box 6 (IsLens.whole WrldS)), (3, .v (a : Int)), (4, .v ((k : Int) + 1))] [(1, .arr ((brN x a k).nodes.map sN)), (5, .cell (sW (brN x a k))), (6, .cell WrldS.zero)]) (4) ⟨0, by omega, rfl⟩ (Le.mk rfl (tlb rfl rfl rfl (tlb rfl rfl rfl (tle rfl (rfl) rfl (tle rfl (rfl) rfl tln)))) (olk rfl (by exact bN) (olk rfl (by exact obOkS rfl) (olk rfl (by exact obOkS0) oln))) (hU (a := so w) rfl)) ?_
      rintro n_ s ⟨k, hk, rfl⟩
      refine aS (aS (aR ?_))
      refine oC (oM rfl (Conv.of rfl) rfl) ?_
      refine oC (op_leq rfl rfl rfl) ?_
      refine oN ?_
      refine aC rfl (fun h2 => ?_) (fun h2 => ?_)
      · have hk2 : k < 4 := by simp at h2; omega
        refine aW ?_
        refine aS (aB ?_)
        refine aR ?_
        refine oC (op_ldm ty26_WrldS rfl rfl rfl) ?_
        refine oC (oM rfl (Conv.of rfl) rfl) ?_
        refine oC (oM rfl (Conv.of rfl) rfl) ?_
        refine oC (oLM (s := 16) (pre := []) fb117 (.nil _) rfl (.cons rfl (Conv.of rfl) (.cons rfl (Conv.of rfl) (.nil _))) (l21Bring_ct _ _ _ (brN_ok hx a k)) (olsk rfl ols0) (kK (by exact bN) k0) (kK (by exact bN) k0) rfl argO0 (argOk' rfl rfl (argOk' rfl rfl argO0)) (inOne rfl) (inOne rfl) rfl) ?_
        refine oC (op_stm ty26_WrldS rfl rfl rfl) ?_
        refine oN ?_
        refine aR ?_
        refine oC (oM rfl (Conv.of rfl) rfl) ?_
        refine oC (oP rfl rfl rfl (by omega)) ?_
        refine oC (oA rfl (Conv.of rfl) rfl) ?_
        refine oN ?_
        repeat first | refine nS ?_ | refine nB ?_
        exact ⟨n_ - 1, _, by omega, ⟨k + 1, by omega, rfl⟩, Le.mk rfl (tlb rfl rfl rfl (tlb rfl rfl rfl (tle rfl (rfl) rfl (tle rfl (rfl) rfl tln)))) (olk rfl (by exact bN) (olk rfl (by exact obOkS rfl) (olk rfl (by exact obOkS0) oln))) (hU (a := so w) rfl)⟩
      · refine aE ?_
        repeat refine ex_seq ?_
        refine eB ?_
        have hk4 : k = 4 := by simp at h2; omega
        subst hk4
        all_goals exact Le.mk rfl (tlb rfl rfl rfl (tlb rfl rfl rfl (tle rfl (rfl) rfl tln))) (olk rfl (by exact bN) (olk rfl (by exact obOkS rfl) (olk rfl (by exact obOkS0) oln))) (hU (a := so w) rfl)
    · refine aR ?_
      refine oC (oM rfl (Conv.of rfl) rfl) ?_
      refine oC (oP rfl rfl rfl (by omega)) ?_
      refine oC (oA rfl (Conv.of rfl) rfl) ?_
      refine oN ?_
      repeat first | refine nS ?_ | refine nB ?_
      exact ⟨n_ - 1, _, by omega, ⟨a + 1, b4 x a, b4_ok hx a, (by rw [← he, show 100 - a = (100 - (a + 1)) + 1 by omega, sprF_go ha]), by omega, rfl⟩, Le.mk rfl (tlb rfl rfl rfl (tlb rfl rfl rfl (tle rfl (rfl) rfl tln))) (olk rfl (by exact bN) (olk rfl (by exact obOkS rfl) (olk rfl (by exact obOkS0) oln))) (hU (a := so w) rfl)⟩
  · refine aE ?_
    repeat refine ex_seq ?_
    refine eB ?_
    have ha : ¬ a < x.log.length := by simpa [sW] using h
    rw [sprF_stop ha] at he
    subst he
    refine aS (aR ?_)
    refine oC (op_ldm ty26_WrldS rfl rfl rfl) ?_
    refine oC (op_stm ty26_WrldS rfl rfl rfl) ?_
    refine oN ?_
    refine aT ?_
    repeat first | refine rS ?_ | refine rB ?_
    exact ⟨_, _, res1C (ol := so (spreadF w)) ty26_WrldS rfl rfl (inOne rfl) (olk rfl bN oln) (hU rfl), rfl, rfl⟩
theorem sCalmBad_ct (w : Wrld) (pays : List Pay) (h : (worldOk w && decide (pays.length ≤ 30)) = false) : CtP Tryz.prog 25 [.v w, .v pays] (.v Wrld.zero) := by
  have hl : worldOk w = true → (30 : Int) < (pays.length : Int) := fun e => by
    rw [e] at h
    simp at h
    omega
  clear h
  refine Ct.intro Tryz.func25 rfl rfl ?_
  all_goals refine aS (aR ?_)
  all_goals refine oC (op_box (o := 0) ty26 rfl (Conv.of rfl) rfl rfl) ?_
  all_goals refine oC (oX (o := 1) z26 rfl rfl) ?_
  all_goals refine oN ?_
  refine aS (aST (s' := mkSt 39 [(1, .v pays), (4, .box 1 (IsLens.whole Wrld)), (14, .v true)] [(1, .cell Wrld.zero)]) ?_ ?_)
  · all_goals refine aR ?_
    all_goals refine oC (oD ty26 rfl rfl rfl) ?_
    all_goals refine oC (oL fb10 (.cons rfl (Conv.of rfl) (.nil _)) (sWorldOk_ct _) (aK rfl rfl aK0) rfl rfl) ?_
    all_goals refine oC (op_not rfl rfl) ?_
    all_goals refine oC (oM rfl (Conv.of rfl) rfl) ?_
    all_goals refine g_split (t := 10) rfl (fun h => ?_) (fun h => ?_)
    all_goals first | refine oC (gF rfl rfl rfl rfl rfl) ?_ | refine oC (gN rfl rfl rfl (oM rfl (Conv.of rfl) rfl)) ?_
    all_goals first | refine oC (gF rfl rfl rfl rfl rfl) ?_ | refine oC (gN rfl rfl rfl (oE sl61 rfl rfl)) ?_
    all_goals first | refine oC (gF rfl rfl rfl rfl rfl) ?_ | refine oC (gN rfl rfl rfl (op_gtr rfl rfl rfl)) ?_
    all_goals refine oC (oQ rfl rfl rfl rfl) ?_
    all_goals refine oN ?_
    all_goals exact Le.mk rfl (tle rfl (rfl) rfl (tlb rfl rfl rfl (tle rfl (by first | rfl | (show AV.v _ = AV.v _; simp_all; try omega)) rfl tln))) (olk rfl (by exact bC) oln) noS
  refine aC rfl (fun h2 => ?_) (fun h2 => absurd h2 (by decide))
  all_goals refine aS (aR ?_)
  all_goals refine oC (op_build (.nil _) z26 rfl pl26 rfl) ?_
  all_goals refine oC (op_st ty26 rfl rfl (Conv.of rfl) rfl) ?_
  all_goals refine oN ?_
  refine aT ?_
  repeat first | refine rS ?_ | refine rB ?_
  exact finP (.rc ty26 rfl rfl) rfl rfl
set_option maxHeartbeats 4000000 in
theorem sCalmA_ct (w : Wrld) (pays : List Pay) (h : worldOk w = true) (hp : pays.length ≤ 30) : Ct Tryz.prog 25 [.v w, .v pays] noObj (fun r1 h1 => r1 = .v (sW (pays.foldl calmF w)) ∧ h1 = obs (so (pays.foldl calmF w))) := by
  have hf := (worldOk_iff.1 h).fx
  refine Ct.intro Tryz.func25 rfl rfl ?_
  all_goals refine aS (aR ?_)
  all_goals refine oC (op_box (o := 5) ty26 rfl (Conv.of rfl) rfl rfl) ?_
  all_goals refine oC (oX (o := 6) z26_WrldS rfl rfl) ?_
  all_goals refine oN ?_
  refine aS (aST (s' := mkSt 39 [(1, .v pays), (2, .box 5 (IsLens.whole Wrld)), (4, .box 6 (IsLens.whole WrldS)), (14, .v false)] [(5, .cell w), (6, .cell WrldS.zero)]) ?_ ?_)
  · all_goals refine aR ?_
    all_goals refine oC (oD ty26 rfl rfl rfl) ?_
    all_goals refine oC (oL fb10 (.cons rfl (Conv.of rfl) (.nil _)) (sWorldOk_ct _) (aK rfl rfl aK0) rfl rfl) ?_
    all_goals refine oC (op_not rfl rfl) ?_
    all_goals refine oC (oM rfl (Conv.of rfl) rfl) ?_
    all_goals refine g_split (t := 10) rfl (fun h => ?_) (fun h => ?_)
    all_goals first | refine oC (gF rfl rfl rfl rfl rfl) ?_ | refine oC (gN rfl rfl rfl (oM rfl (Conv.of rfl) rfl)) ?_
    all_goals first | refine oC (gF rfl rfl rfl rfl rfl) ?_ | refine oC (gN rfl rfl rfl (oE sl61 rfl rfl)) ?_
    all_goals first | refine oC (gF rfl rfl rfl rfl rfl) ?_ | refine oC (gN rfl rfl rfl (op_gtr rfl rfl rfl)) ?_
    all_goals refine oC (oQ rfl rfl rfl rfl) ?_
    all_goals refine oN ?_
    all_goals exact Le.mk rfl (tle rfl (rfl) rfl (tlb rfl rfl rfl (tlb rfl rfl rfl (tle rfl (by (show AV.v _ = AV.v _; simp_all; try omega)) rfl tln)))) (olk rfl (by exact bC) (olk rfl (by exact obOkS0) oln)) noS
  refine aC rfl (fun h2 => absurd h2 (by decide)) (fun h2 => ?_)
  refine aW ?_
  all_goals refine aS (aR ?_)
  all_goals refine oC (oD ty26 rfl rfl rfl) ?_
  refine awpOps_callO [] rfl fb76 (.cons rfl (Conv.of rfl) (.nil _)) (l21Copy_ct w hf) ols0 k0 (argOk' rfl rfl argO0) rfl ?_
  rintro r h' ⟨rfl, rfl⟩
  refine ⟨so w, rfl, (fun o ho => by cases ho), fun o ho _ => ?_, kK bN k0, fun o ho => ?_, ?_⟩
  · have : o = 1 := by simpa [keys, lk0] using ho
    subst this; rfl
  · have : o = 1 := by simpa using (show o ∈ [1] from ho)
    subst this; rfl
  all_goals refine oC (oX (o := 0) z26_WrldS rfl rfl) ?_
  all_goals refine oC (op_stm ty26_WrldS rfl rfl rfl) ?_
  all_goals refine oN ?_
  all_goals refine aS (aS (aR ?_))
  all_goals refine oC (oA rfl (Conv.of rfl) rfl) ?_
  all_goals refine oN ?_
  refine aB ?_
  refine awp_loop' (fun n_ s => ∃ (k : Nat), ∃ (hn : n_ + k = pays.length), s = mkSt 39 [(1, .v pays), (4, .box 6 (IsLens.whole WrldS)), (5, .box 0 (IsLens.whole WrldS)), (6, .v (k : Int))] [(1, .arr (((pays.take k).foldl calmF w).nodes.map sN)), (0, .cell (sW ((pays.take k).foldl calmF w))), (6, .cell WrldS.zero)]) (pays.length) ⟨0, by omega, rfl⟩ (Le.mk rfl (tle rfl (rfl) rfl (tlb rfl rfl rfl (tlb rfl rfl rfl (tle rfl (rfl) rfl tln)))) (olk (by rfl) (by exact bN) (olk (by rfl) (by exact obOkS rfl) (olk rfl (by exact obOkS0) oln))) noS) ?_
  rintro n_ s ⟨k, hn, rfl⟩
  have hfine : FineX ((pays.take k).foldl calmF w) := calmFold_ok _ hf
  all_goals refine aS (aS (aR ?_))
  all_goals refine oC (oM rfl (Conv.of rfl) rfl) ?_
  all_goals refine oC (oM rfl (Conv.of rfl) rfl) ?_
  all_goals refine oC (oE sl61 rfl rfl) ?_
  all_goals refine oC (oLt rfl rfl rfl) ?_
  all_goals refine oN ?_
  refine aC rfl (fun h => ?_) (fun h => ?_)
  · have hlt : k < pays.length := by simpa using h
    have hx : pays[k]? = some pays[k] := List.getElem?_eq_getElem hlt
    have hx' : pays[(k : Int).toNat]? = some pays[k] := hx
    refine aW ?_
    refine aS (aB ?_)
    have h1 := tickF_ok hfine
    have h2 := spread_ok h1
    have hep : 1 ≤ (spreadF (tickF ((pays.take k).foldl calmF w))).epoch ∧ (spreadF (tickF ((pays.take k).foldl calmF w))).epoch ≤ 30 := by
      have := hfine.ep
      have e1 : (spreadF (tickF ((pays.take k).foldl calmF w))).epoch = min (((pays.take k).foldl calmF w).epoch + 1) 30 := sprF_ep' 100 0 _
      omega
    all_goals refine aS (aR ?_)
    all_goals refine oC (op_ldm ty26_WrldS rfl rfl rfl) ?_
    all_goals refine oC (oLM (s := 24) (pre := []) fb78 (.nil _) rfl (.nil _) (l21Tick_ct _ hfine.fine) (olsk rfl ols0) (kK (by exact bN) k0) (kK (by exact bN) k0) rfl argO0 argO0 (inOne rfl) (inOne rfl) rfl) ?_
    all_goals refine oC (oLM (s := 25) (pre := []) fb77 (.nil _) rfl (.nil _) (sSpread_ct _ h1) (olsk rfl ols0) (kK (by exact bN) k0) (kK (by exact bN) k0) rfl argO0 argO0 (inOne rfl) (inOne rfl) rfl) ?_
    all_goals refine oC (op_stm ty26_WrldS rfl rfl rfl) ?_
    all_goals refine oN ?_
    refine awp_parkCW (s := 21) (o := 0) (tb := 5) rfl rfl rfl (fun hv => ?_)
    have hld := l3Leader_ct (spreadF (tickF ((pays.take k).foldl calmF w))).epoch (by omega)
    rw [lead_eq hep] at hld
    refine aS ?_
    refine dg_start 9 ?_
    all_goals refine dg_cons (oD ty26_WrldH rfl rfl rfl) ?_
    all_goals refine dg_cons (oF f26_0_WrldH rfl rfl) ?_
    all_goals refine dg_cons (oD ty3 rfl rfl rfl) ?_
    all_goals refine dg_cons (oL fb80 (.cons rfl (Conv.of rfl) (.nil _)) (hld) (aK rfl rfl aK0) rfl rfl) ?_
    all_goals refine dg_cons (oM rfl (Conv.of rfl) rfl) ?_
    all_goals refine dg_cons (oM rfl (Conv.of rfl) rfl) ?_
    all_goals refine dg_cons (op_ix sl61 rfl rfl rfl (by omega) hx') ?_
    all_goals refine dg_cons (oDR ty75 rfl rfl) ?_
    refine dg_cons (op_callPW (s := 27) (r := 21) (ol := so (spreadF (tickF ((pays.take k).foldl calmF w)))) rfl fb79 rfl rfl (.cons rfl (Conv.of rfl) (.cons rfl (Conv.of rfl) (.nil _))) (l21Propose_ct _ _ _ h2) (olsk rfl ols0) (kK bN k0) (kK bN k0) rfl (argOk' rfl rfl (argOk' rfl rfl argO0)) (inOne rfl) (inOne rfl) rfl) ?_
    refine dg_bar (fun _ : Unit => _) mixed rfl rfl (recell (o := 0) (tb := 5) (β := WrldS) rfl rfl (fun G w ω cs hh => wrlH_fW hh)) (fun _ => ?_)
    refine dg_cons (op_stm ty26_WrldS rfl rfl rfl) ?_
    refine dg_nil rfl ?_
    have h3 := wproposeF_ok (id := leader (spreadF (tickF ((pays.take k).foldl calmF w))).epoch) (p := pays[k]) h2
    all_goals refine aR ?_
    all_goals refine oC (op_ldm ty26_WrldS rfl rfl rfl) ?_
    all_goals refine oC (oLM (s := 36) (pre := []) fb77 (.nil _) rfl (.nil _) (sSpread_ct _ h3) (olsk rfl ols0) (kK (by exact bN) k0) (kK (by exact bN) k0) rfl argO0 argO0 (inOne rfl) (inOne rfl) rfl) ?_
    all_goals refine oC (op_stm ty26_WrldS rfl rfl rfl) ?_
    all_goals refine oN ?_
    all_goals refine aR ?_
    all_goals refine oC (oM rfl (Conv.of rfl) rfl) ?_
    all_goals refine oC (oP rfl rfl rfl (by omega)) ?_
    all_goals refine oC (oA rfl (Conv.of rfl) rfl) ?_
    all_goals refine oN ?_
    repeat first | refine nS ?_ | refine nB ?_
    exact ⟨n_ - 1, _, by omega, ⟨k + 1, by omega, rfl⟩, Le.mk rfl (tle rfl (rfl) rfl (tlb rfl rfl rfl (tlb rfl rfl rfl (tle rfl (rfl) rfl tln)))) (olk (by (rw [foldl_at calmF _ hx]; rfl)) (by exact bN) (olk (by (rw [foldl_at calmF _ hx]; rfl)) (by exact obOkS rfl) (olk rfl (by exact obOkS0) oln))) noS⟩
  · refine aE ?_
    repeat refine ex_seq ?_
    refine eB ?_
    have hk : pays.length ≤ k := by simpa using h
    have hp2 : (pays.take k).foldl calmF w = pays.foldl calmF w := by rw [take_end hk]
    rw [hp2] at hfine ⊢
    all_goals refine aS (aR ?_)
    all_goals refine oC (op_ldm ty26_WrldS rfl rfl rfl) ?_
    all_goals refine oC (op_stm ty26_WrldS rfl rfl rfl) ?_
    all_goals refine oN ?_
    refine aT ?_
    repeat first | refine rS ?_ | refine rB ?_
    exact ⟨_, _, res1C (ol := so (pays.foldl calmF w)) ty26_WrldS rfl rfl (inOne rfl) (olk rfl bN oln) noS, rfl, rfl⟩
theorem sCalm_ct (w : Wrld) (pays : List Pay) : CtP Tryz.prog 25 [.v w, .v pays] (.v (worldCalmR w pays)) := by
  unfold worldCalmR
  cases h : worldOk w && decide (pays.length ≤ 30) with
  | false => exact sCalmBad_ct w pays h
  | true =>
    simp only [Bool.and_eq_true, decide_eq_true_eq] at h
    exact Ct.frz (sCalmA_ct w pays h.1 h.2) (frzS_one (big4 (calmFold_ok _ (worldOk_iff.1 h.1).fx).four))
end Go.Proofs.YtmhmeppocbcmeaaGreat

/- Certificates. -/
set_option linter.unusedVariables false
set_option linter.unusedSimpArgs false
namespace Go.Proofs.YtmhmeppocbcmeaaGreat
open Go Go.Wt
set_option maxHeartbeats 1000000 in
theorem votersOk_ct (l : List Int) : CtP Tryz.prog 57 [.v l] (.v (votersOk l)) := by
  refine Ct.intro Tryz.func57 rfl rfl ?_
  refine awp_bigL 0 rfl (fun hB => ?_)
  all_goals first | refine aS (aR ?_) | refine aS (aS (aR ?_)) | refine aR ?_ | refine aS (aS (aS (aR ?_)))
  all_goals refine oC (oA rfl (Conv.of rfl) rfl) ?_
  all_goals refine oN ?_
  all_goals first | refine aS (aR ?_) | refine aS (aS (aR ?_)) | refine aR ?_ | refine aS (aS (aS (aR ?_)))
  all_goals first | refine oC (oM rfl (Conv.of rfl) rfl) ?_ | refine oC (op_mvl rfl rfl rfl rfl) ?_ | refine oC (op_mvo rfl rfl rfl rfl) ?_
  all_goals first | refine oC (oE sl93 rfl rfl) ?_ | refine oC (oEA sl93 rfl rfl rfl) ?_
  all_goals refine oC (oM rfl (Conv.of rfl) rfl) ?_
  all_goals refine oN ?_
  first | refine aS (aB ?_) | refine aS (aS (aB ?_)) | refine aB ?_ | refine aS (aS (aS (aB ?_)))
  first | refine aS (awp_loop' (fun n_ s => ∃ (k : Nat), ∃ (p : Int), ∃ (hn : n_ + k = l.length), ∃ (hp : (k = 0 ∧ p = 0) ∨ (0 < k ∧ l[k - 1]? = some p)), ∃ (he : votersOkFrom p (l.drop k) = votersOkFrom 0 l), s = mkSt 32 [(0, .v l), (5, .v l), (6, .v (l.length : Int)), (7, .v (k : Int))] []) (l.length) ⟨0, 0, by omega, .inl ⟨rfl, rfl⟩, rfl, rfl⟩ (Le.mk rfl (tle rfl (rfl) rfl (tle rfl (rfl) rfl (tle rfl (rfl) rfl (tle rfl (rfl) rfl tln)))) oln noS) ?_) | refine aS (aS (awp_loop' (fun n_ s => ∃ (k : Nat), ∃ (p : Int), ∃ (hn : n_ + k = l.length), ∃ (hp : (k = 0 ∧ p = 0) ∨ (0 < k ∧ l[k - 1]? = some p)), ∃ (he : votersOkFrom p (l.drop k) = votersOkFrom 0 l), s = mkSt 32 [(0, .v l), (5, .v l), (6, .v (l.length : Int)), (7, .v (k : Int))] []) (l.length) ⟨0, 0, by omega, .inl ⟨rfl, rfl⟩, rfl, rfl⟩ (Le.mk rfl (tle rfl (rfl) rfl (tle rfl (rfl) rfl (tle rfl (rfl) rfl (tle rfl (rfl) rfl tln)))) oln noS) ?_)) | refine awp_loop' (fun n_ s => ∃ (k : Nat), ∃ (p : Int), ∃ (hn : n_ + k = l.length), ∃ (hp : (k = 0 ∧ p = 0) ∨ (0 < k ∧ l[k - 1]? = some p)), ∃ (he : votersOkFrom p (l.drop k) = votersOkFrom 0 l), s = mkSt 32 [(0, .v l), (5, .v l), (6, .v (l.length : Int)), (7, .v (k : Int))] []) (l.length) ⟨0, 0, by omega, .inl ⟨rfl, rfl⟩, rfl, rfl⟩ (Le.mk rfl (tle rfl (rfl) rfl (tle rfl (rfl) rfl (tle rfl (rfl) rfl (tle rfl (rfl) rfl tln)))) oln noS) ?_ | refine aS (aS (aS (awp_loop' (fun n_ s => ∃ (k : Nat), ∃ (p : Int), ∃ (hn : n_ + k = l.length), ∃ (hp : (k = 0 ∧ p = 0) ∨ (0 < k ∧ l[k - 1]? = some p)), ∃ (he : votersOkFrom p (l.drop k) = votersOkFrom 0 l), s = mkSt 32 [(0, .v l), (5, .v l), (6, .v (l.length : Int)), (7, .v (k : Int))] []) (l.length) ⟨0, 0, by omega, .inl ⟨rfl, rfl⟩, rfl, rfl⟩ (Le.mk rfl (tle rfl (rfl) rfl (tle rfl (rfl) rfl (tle rfl (rfl) rfl (tle rfl (rfl) rfl tln)))) oln noS) ?_)))
  rintro n_ s ⟨k, p, hn, hp, he, rfl⟩
  all_goals first | refine aS (aR ?_) | refine aS (aS (aR ?_)) | refine aR ?_ | refine aS (aS (aS (aR ?_)))
  all_goals refine oC (oLt rfl rfl rfl) ?_
  all_goals refine oN ?_
  first | refine aS (aC rfl (fun h => ?_) (fun h => ?_)) | refine aS (aS (aC rfl (fun h => ?_) (fun h => ?_))) | refine aC rfl (fun h => ?_) (fun h => ?_) | refine aS (aS (aS (aC rfl (fun h => ?_) (fun h => ?_))))
  · have hlt : k < l.length := by simpa using h
    have hx : l[k]? = some l[k] := List.getElem?_eq_getElem hlt
    generalize l[k] = x at hx
    have hs := votersOk_at (p := p) hx
    refine aW ?_
    first | refine aS (aB ?_) | refine aS (aS (aB ?_)) | refine aB ?_ | refine aS (aS (aS (aB ?_)))
    all_goals first | refine aS (aR ?_) | refine aS (aS (aR ?_)) | refine aR ?_ | refine aS (aS (aS (aR ?_)))
    all_goals first | refine oC (oM rfl (Conv.of rfl) rfl) ?_ | refine oC (op_mvl rfl rfl rfl rfl) ?_ | refine oC (op_mvo rfl rfl rfl rfl) ?_
    all_goals first | refine oC (op_ix sl93 rfl rfl rfl (by omega) hx) ?_ | refine oC (op_ixA sl93 rfl rfl rfl rfl (by omega)) ?_
    all_goals first | refine oC (oD ty3 rfl rfl rfl) ?_ | refine oC (oDR ty3 rfl rfl) ?_ | refine oC (op_lde ty3 rfl rfl (by assumption) rfl) ?_ | refine oC (op_ldl ty3 rfl rfl rfl) ?_ | refine oC (op_ldd ty3 rfl rfl rfl) ?_ | refine oC (op_ldde ty3 rfl rfl (by assumption) rfl) ?_
    all_goals first | refine oC (oA rfl (Conv.of rfl) rfl) ?_ | refine oC (op_asl rfl rfl rfl rfl) ?_ | refine oC (op_aso rfl rfl rfl rfl) ?_
    all_goals first | refine oC (oA rfl (Conv.of rfl) rfl) ?_ | refine oC (op_asl rfl rfl rfl rfl) ?_ | refine oC (op_aso rfl rfl rfl rfl) ?_
    all_goals refine oN ?_
    have hgo : (within x 1 4 && decide (p < x)) = true → votersOkFrom x (l.drop (k + 1)) = votersOkFrom 0 l := fun e => by rw [← he, hs, e]; rfl
    have hno : (within x 1 4 && decide (p < x)) = false → votersOkFrom 0 l = false := fun e => by rw [← he, hs, e]; rfl
    rcases hp with ⟨hk0, hp0⟩ | ⟨hk0, hp0⟩
    · subst hk0 hp0
      have hw : within x 1 4 = true → 0 < x := fun e => by simp [within] at e; omega
      first | refine aS (aS (aS (aST (s' := mkSt 32 [(0, .v l), (5, .v l), (6, .v (l.length : Int)), (7, .v ((0 : Nat) : Int)), (27, .v (!(within x 1 4 && decide (0 < x))))] []) ?_ ?_))) | refine aS (aS (aST (s' := mkSt 32 [(0, .v l), (5, .v l), (6, .v (l.length : Int)), (7, .v ((0 : Nat) : Int)), (27, .v (!(within x 1 4 && decide (0 < x))))] []) ?_ ?_)) | refine aS (aST (s' := mkSt 32 [(0, .v l), (5, .v l), (6, .v (l.length : Int)), (7, .v ((0 : Nat) : Int)), (27, .v (!(within x 1 4 && decide (0 < x))))] []) ?_ ?_) | refine aST (s' := mkSt 32 [(0, .v l), (5, .v l), (6, .v (l.length : Int)), (7, .v ((0 : Nat) : Int)), (27, .v (!(within x 1 4 && decide (0 < x))))] []) ?_ ?_ | refine awp_toB (s' := mkSt 32 [(0, .v l), (5, .v l), (6, .v (l.length : Int)), (7, .v ((0 : Nat) : Int)), (27, .v (!(within x 1 4 && decide (0 < x))))] []) ?_ ?_ | refine awp_to (s' := mkSt 32 [(0, .v l), (5, .v l), (6, .v (l.length : Int)), (7, .v ((0 : Nat) : Int)), (27, .v (!(within x 1 4 && decide (0 < x))))] []) ?_ ?_
      · all_goals first | refine aS (aR ?_) | refine aS (aS (aR ?_)) | refine aR ?_ | refine aS (aS (aS (aR ?_)))
        all_goals first | refine oC (oM rfl (Conv.of rfl) rfl) ?_ | refine oC (op_mvl rfl rfl rfl rfl) ?_ | refine oC (op_mvo rfl rfl rfl rfl) ?_
        all_goals refine oC (oL fb112 (.cons rfl (Conv.of rfl) (.nil _)) (nodeIdOk_ct _) (aK rfl rfl aK0) rfl rfl) ?_
        all_goals refine oC (op_not rfl rfl) ?_
        all_goals first | refine oC (oM rfl (Conv.of rfl) rfl) ?_ | refine oC (op_mvl rfl rfl rfl rfl) ?_ | refine oC (op_mvo rfl rfl rfl rfl) ?_
        all_goals first | refine g_lit (t := 15) (b := true) rfl ?_ | refine g_lit (t := 15) (b := false) rfl ?_ | refine g_ulit (t := 15) rfl ?_ | refine g_split (t := 15) rfl (fun h => ?_) (fun h => ?_)
        all_goals first | refine oC (gF rfl rfl rfl rfl rfl) ?_ | refine oC (g_und rfl rfl rfl) ?_ | refine oC (gN rfl rfl rfl (oM rfl (Conv.of rfl) rfl)) ?_ | refine oC (gN rfl rfl rfl (op_mvl rfl rfl rfl rfl)) ?_ | refine oC (gN rfl rfl rfl (op_mvo rfl rfl rfl rfl)) ?_
        all_goals first | refine oC (gF rfl rfl rfl rfl rfl) ?_ | refine oC (g_und rfl rfl rfl) ?_ | refine oC (gN rfl rfl rfl (op_gtr rfl rfl rfl)) ?_
        all_goals first | refine oC (gF rfl rfl rfl rfl rfl) ?_ | refine oC (g_und rfl rfl rfl) ?_ | refine oC (gN rfl rfl rfl (oM rfl (Conv.of rfl) rfl)) ?_ | refine oC (gN rfl rfl rfl (op_mvl rfl rfl rfl rfl)) ?_ | refine oC (gN rfl rfl rfl (op_mvo rfl rfl rfl rfl)) ?_
        all_goals first | refine g_lit (t := 18) (b := true) rfl ?_ | refine g_lit (t := 18) (b := false) rfl ?_ | refine g_ulit (t := 18) rfl ?_ | refine g_split (t := 18) rfl (fun h => ?_) (fun h => ?_)
        all_goals first | refine oC (gF rfl rfl rfl rfl rfl) ?_ | refine oC (g_und rfl rfl rfl) ?_ | refine oC (gN rfl rfl rfl (oM rfl (Conv.of rfl) rfl)) ?_ | refine oC (gN rfl rfl rfl (op_mvl rfl rfl rfl rfl)) ?_ | refine oC (gN rfl rfl rfl (op_mvo rfl rfl rfl rfl)) ?_
        all_goals first | refine oC (gF rfl rfl rfl rfl rfl) ?_ | refine oC (g_und rfl rfl rfl) ?_ | refine oC (gN rfl rfl rfl (oM rfl (Conv.of rfl) rfl)) ?_ | refine oC (gN rfl rfl rfl (op_mvl rfl rfl rfl rfl)) ?_ | refine oC (gN rfl rfl rfl (op_mvo rfl rfl rfl rfl)) ?_
        all_goals first | refine oC (gF rfl rfl rfl rfl rfl) ?_ | refine oC (g_und rfl rfl rfl) ?_ | refine oC (gN rfl rfl rfl (op_sub rfl rfl rfl (by (simp at *)))) ?_
        all_goals first | refine oC (gF rfl rfl rfl rfl rfl) ?_ | refine oC (g_und rfl rfl rfl) ?_ | refine oC (gN rfl rfl rfl (op_ix sl93 rfl rfl rfl (by simp at *) (by simp at *))) ?_ | refine oC (gN rfl rfl rfl (op_ixA sl93 rfl rfl rfl rfl (by omega))) ?_
        all_goals first | refine oC (gF rfl rfl rfl rfl rfl) ?_ | refine oC (g_und rfl rfl rfl) ?_ | refine oC (gN rfl rfl rfl (oD ty3 rfl rfl rfl)) ?_ | refine oC (gN rfl rfl rfl (oDR ty3 rfl rfl)) ?_ | refine oC (gN rfl rfl rfl (op_lde ty3 rfl rfl (by assumption) rfl)) ?_ | refine oC (gN rfl rfl rfl (op_ldl ty3 rfl rfl rfl)) ?_ | refine oC (gN rfl rfl rfl (op_ldd ty3 rfl rfl rfl)) ?_ | refine oC (gN rfl rfl rfl (op_ldde ty3 rfl rfl (by assumption) rfl)) ?_
        all_goals first | refine oC (gF rfl rfl rfl rfl rfl) ?_ | refine oC (g_und rfl rfl rfl) ?_ | refine oC (gN rfl rfl rfl (oM rfl (Conv.of rfl) rfl)) ?_ | refine oC (gN rfl rfl rfl (op_mvl rfl rfl rfl rfl)) ?_ | refine oC (gN rfl rfl rfl (op_mvo rfl rfl rfl rfl)) ?_
        all_goals first | refine oC (gF rfl rfl rfl rfl rfl) ?_ | refine oC (g_und rfl rfl rfl) ?_ | refine oC (gN rfl rfl rfl (op_geq rfl rfl rfl)) ?_
        all_goals first | refine oC (gF rfl rfl rfl rfl rfl) ?_ | refine oC (g_und rfl rfl rfl) ?_ | refine oC (gN rfl rfl rfl (oQ rfl rfl rfl rfl)) ?_
        all_goals refine oC (oQ rfl rfl rfl rfl) ?_
        all_goals refine oN ?_
        all_goals exact Le.mk rfl (tle rfl (rfl) rfl (tle rfl (rfl) rfl (tle rfl (rfl) rfl (tle rfl (rfl) rfl (tle rfl (by first | rfl | (show AV.v _ = AV.v _; simp_all)) rfl tln))))) oln noS
      first | refine aS (aC rfl (fun h3 => ?_) (fun h3 => ?_)) | refine aS (aS (aC rfl (fun h3 => ?_) (fun h3 => ?_))) | refine aC rfl (fun h3 => ?_) (fun h3 => ?_) | refine aS (aS (aS (aC rfl (fun h3 => ?_) (fun h3 => ?_))))
      · all_goals first | refine aS (aR ?_) | refine aS (aS (aR ?_)) | refine aR ?_ | refine aS (aS (aS (aR ?_)))
        all_goals refine oC (oA rfl (Conv.of rfl) rfl) ?_
        all_goals refine oN ?_
        refine aT ?_
        repeat first | refine rS ?_ | refine rB ?_
        refine finP (.v rfl (Conv.of rfl)) rfl ?_
        show AV.v false = _
        rw [votersOk, hno (not_t h3)]; rfl
      · refine aW ?_
        all_goals first | refine aS (aR ?_) | refine aS (aS (aR ?_)) | refine aR ?_ | refine aS (aS (aS (aR ?_)))
        all_goals refine oC (oP rfl rfl rfl (by omega)) ?_
        all_goals first | refine oC (oM rfl (Conv.of rfl) rfl) ?_ | refine oC (op_mvl rfl rfl rfl rfl) ?_ | refine oC (op_mvo rfl rfl rfl rfl) ?_
        all_goals refine oN ?_
        repeat first | refine nS ?_ | refine nB ?_
        exact ⟨n_ - 1, _, by omega, ⟨0 + 1, x, by omega, .inr ⟨by omega, hx⟩, hgo (not_f h3), rfl⟩, Le.mk rfl (tle rfl (rfl) rfl (tle rfl (rfl) rfl (tle rfl (rfl) rfl (tle rfl (rfl) rfl tln)))) oln noS⟩
    · have hp1 : l[((k : Int) - 1).toNat]? = some p := by rw [show ((k : Int) - 1).toNat = k - 1 by omega]; exact hp0
      first | refine aS (aS (aS (aST (s' := mkSt 32 [(0, .v l), (5, .v l), (6, .v (l.length : Int)), (7, .v (k : Int)), (27, .v (!(within x 1 4 && decide (p < x))))] []) ?_ ?_))) | refine aS (aS (aST (s' := mkSt 32 [(0, .v l), (5, .v l), (6, .v (l.length : Int)), (7, .v (k : Int)), (27, .v (!(within x 1 4 && decide (p < x))))] []) ?_ ?_)) | refine aS (aST (s' := mkSt 32 [(0, .v l), (5, .v l), (6, .v (l.length : Int)), (7, .v (k : Int)), (27, .v (!(within x 1 4 && decide (p < x))))] []) ?_ ?_) | refine aST (s' := mkSt 32 [(0, .v l), (5, .v l), (6, .v (l.length : Int)), (7, .v (k : Int)), (27, .v (!(within x 1 4 && decide (p < x))))] []) ?_ ?_ | refine awp_toB (s' := mkSt 32 [(0, .v l), (5, .v l), (6, .v (l.length : Int)), (7, .v (k : Int)), (27, .v (!(within x 1 4 && decide (p < x))))] []) ?_ ?_ | refine awp_to (s' := mkSt 32 [(0, .v l), (5, .v l), (6, .v (l.length : Int)), (7, .v (k : Int)), (27, .v (!(within x 1 4 && decide (p < x))))] []) ?_ ?_
      · all_goals first | refine aS (aR ?_) | refine aS (aS (aR ?_)) | refine aR ?_ | refine aS (aS (aS (aR ?_)))
        all_goals first | refine oC (oM rfl (Conv.of rfl) rfl) ?_ | refine oC (op_mvl rfl rfl rfl rfl) ?_ | refine oC (op_mvo rfl rfl rfl rfl) ?_
        all_goals refine oC (oL fb112 (.cons rfl (Conv.of rfl) (.nil _)) (nodeIdOk_ct _) (aK rfl rfl aK0) rfl rfl) ?_
        all_goals refine oC (op_not rfl rfl) ?_
        all_goals first | refine oC (oM rfl (Conv.of rfl) rfl) ?_ | refine oC (op_mvl rfl rfl rfl rfl) ?_ | refine oC (op_mvo rfl rfl rfl rfl) ?_
        all_goals first | refine g_lit (t := 15) (b := true) rfl ?_ | refine g_lit (t := 15) (b := false) rfl ?_ | refine g_ulit (t := 15) rfl ?_ | refine g_split (t := 15) rfl (fun h => ?_) (fun h => ?_)
        all_goals first | refine oC (gF rfl rfl rfl rfl rfl) ?_ | refine oC (g_und rfl rfl rfl) ?_ | refine oC (gN rfl rfl rfl (oM rfl (Conv.of rfl) rfl)) ?_ | refine oC (gN rfl rfl rfl (op_mvl rfl rfl rfl rfl)) ?_ | refine oC (gN rfl rfl rfl (op_mvo rfl rfl rfl rfl)) ?_
        all_goals first | refine oC (gF rfl rfl rfl rfl rfl) ?_ | refine oC (g_und rfl rfl rfl) ?_ | refine oC (gN rfl rfl rfl (op_gtr rfl rfl rfl)) ?_
        all_goals first | refine oC (gF rfl rfl rfl rfl rfl) ?_ | refine oC (g_und rfl rfl rfl) ?_ | refine oC (gN rfl rfl rfl (oM rfl (Conv.of rfl) rfl)) ?_ | refine oC (gN rfl rfl rfl (op_mvl rfl rfl rfl rfl)) ?_ | refine oC (gN rfl rfl rfl (op_mvo rfl rfl rfl rfl)) ?_
        all_goals first | refine g_lit (t := 18) (b := true) rfl ?_ | refine g_lit (t := 18) (b := false) rfl ?_ | refine g_ulit (t := 18) rfl ?_ | refine g_split (t := 18) rfl (fun h => ?_) (fun h => ?_)
        all_goals first | refine oC (gF rfl rfl rfl rfl rfl) ?_ | refine oC (g_und rfl rfl rfl) ?_ | refine oC (gN rfl rfl rfl (oM rfl (Conv.of rfl) rfl)) ?_ | refine oC (gN rfl rfl rfl (op_mvl rfl rfl rfl rfl)) ?_ | refine oC (gN rfl rfl rfl (op_mvo rfl rfl rfl rfl)) ?_
        all_goals first | refine oC (gF rfl rfl rfl rfl rfl) ?_ | refine oC (g_und rfl rfl rfl) ?_ | refine oC (gN rfl rfl rfl (oM rfl (Conv.of rfl) rfl)) ?_ | refine oC (gN rfl rfl rfl (op_mvl rfl rfl rfl rfl)) ?_ | refine oC (gN rfl rfl rfl (op_mvo rfl rfl rfl rfl)) ?_
        all_goals first | refine oC (gF rfl rfl rfl rfl rfl) ?_ | refine oC (g_und rfl rfl rfl) ?_ | refine oC (gN rfl rfl rfl (op_sub rfl rfl rfl (by omega))) ?_
        all_goals first | refine oC (gF rfl rfl rfl rfl rfl) ?_ | refine oC (g_und rfl rfl rfl) ?_ | refine oC (gN rfl rfl rfl (op_ix sl93 rfl rfl rfl (by omega) hp1)) ?_ | refine oC (gN rfl rfl rfl (op_ixA sl93 rfl rfl rfl rfl (by omega))) ?_
        all_goals first | refine oC (gF rfl rfl rfl rfl rfl) ?_ | refine oC (g_und rfl rfl rfl) ?_ | refine oC (gN rfl rfl rfl (oD ty3 rfl rfl rfl)) ?_ | refine oC (gN rfl rfl rfl (oDR ty3 rfl rfl)) ?_ | refine oC (gN rfl rfl rfl (op_lde ty3 rfl rfl (by assumption) rfl)) ?_ | refine oC (gN rfl rfl rfl (op_ldl ty3 rfl rfl rfl)) ?_ | refine oC (gN rfl rfl rfl (op_ldd ty3 rfl rfl rfl)) ?_ | refine oC (gN rfl rfl rfl (op_ldde ty3 rfl rfl (by assumption) rfl)) ?_
        all_goals first | refine oC (gF rfl rfl rfl rfl rfl) ?_ | refine oC (g_und rfl rfl rfl) ?_ | refine oC (gN rfl rfl rfl (oM rfl (Conv.of rfl) rfl)) ?_ | refine oC (gN rfl rfl rfl (op_mvl rfl rfl rfl rfl)) ?_ | refine oC (gN rfl rfl rfl (op_mvo rfl rfl rfl rfl)) ?_
        all_goals first | refine oC (gF rfl rfl rfl rfl rfl) ?_ | refine oC (g_und rfl rfl rfl) ?_ | refine oC (gN rfl rfl rfl (op_geq rfl rfl rfl)) ?_
        all_goals first | refine oC (gF rfl rfl rfl rfl rfl) ?_ | refine oC (g_und rfl rfl rfl) ?_ | refine oC (gN rfl rfl rfl (oQ rfl rfl rfl rfl)) ?_
        all_goals refine oC (oQ rfl rfl rfl rfl) ?_
        all_goals refine oN ?_
        all_goals exact Le.mk rfl (tle rfl (rfl) rfl (tle rfl (rfl) rfl (tle rfl (rfl) rfl (tle rfl (rfl) rfl (tle rfl (by first | rfl | (show AV.v _ = AV.v _; simp_all; try (rw [Bool.eq_iff_iff]; simp); try omega)) rfl tln))))) oln noS
      first | refine aS (aC rfl (fun h3 => ?_) (fun h3 => ?_)) | refine aS (aS (aC rfl (fun h3 => ?_) (fun h3 => ?_))) | refine aC rfl (fun h3 => ?_) (fun h3 => ?_) | refine aS (aS (aS (aC rfl (fun h3 => ?_) (fun h3 => ?_))))
      · all_goals first | refine aS (aR ?_) | refine aS (aS (aR ?_)) | refine aR ?_ | refine aS (aS (aS (aR ?_)))
        all_goals refine oC (oA rfl (Conv.of rfl) rfl) ?_
        all_goals refine oN ?_
        refine aT ?_
        repeat first | refine rS ?_ | refine rB ?_
        refine finP (.v rfl (Conv.of rfl)) rfl ?_
        show AV.v false = _
        rw [votersOk, hno (not_t h3)]; rfl
      · refine aW ?_
        all_goals first | refine aS (aR ?_) | refine aS (aS (aR ?_)) | refine aR ?_ | refine aS (aS (aS (aR ?_)))
        all_goals refine oC (oP rfl rfl rfl (by omega)) ?_
        all_goals first | refine oC (oM rfl (Conv.of rfl) rfl) ?_ | refine oC (op_mvl rfl rfl rfl rfl) ?_ | refine oC (op_mvo rfl rfl rfl rfl) ?_
        all_goals refine oN ?_
        repeat first | refine nS ?_ | refine nB ?_
        exact ⟨n_ - 1, _, by omega, ⟨k + 1, x, by omega, .inr ⟨by omega, hx⟩, hgo (not_f h3), rfl⟩, Le.mk rfl (tle rfl (rfl) rfl (tle rfl (rfl) rfl (tle rfl (rfl) rfl (tle rfl (rfl) rfl tln)))) oln noS⟩
  · refine aE ?_
    repeat refine ex_seq ?_
    refine eB ?_
    have hk : l.length ≤ k := by simpa using h
    rw [drop_end hk] at he
    all_goals first | refine aS (aR ?_) | refine aS (aS (aR ?_)) | refine aR ?_ | refine aS (aS (aS (aR ?_)))
    all_goals first | refine oC (oM rfl (Conv.of rfl) rfl) ?_ | refine oC (op_mvl rfl rfl rfl rfl) ?_ | refine oC (op_mvo rfl rfl rfl rfl) ?_
    all_goals first | refine oC (oE sl93 rfl rfl) ?_ | refine oC (oEA sl93 rfl rfl rfl) ?_
    all_goals refine oC (op_geq rfl rfl rfl) ?_
    all_goals first | refine oC (oA rfl (Conv.of rfl) rfl) ?_ | refine oC (op_asl rfl rfl rfl rfl) ?_ | refine oC (op_aso rfl rfl rfl rfl) ?_
    all_goals refine oN ?_
    refine aT ?_
    repeat first | refine rS ?_ | refine rB ?_
    refine finP (.v rfl (Conv.of rfl)) rfl ?_
    show AV.v _ = AV.v _
    congr 1
    rw [votersOk, ← he]
    simp [votersOkFrom]
    try omega
theorem okFn2_ct (l : List Int) : CtP Tryz.prog 56 [.v l] (.v (!votersOk l)) := by
  refine Ct.intro Tryz.func56 rfl rfl ?_
  first | refine aS (aR ?_) | refine aS (aS (aR ?_)) | refine aR ?_ | refine aS (aS (aS (aR ?_)))
  refine oC (oA rfl (Conv.of rfl) rfl) ?_
  refine oN ?_
  first | refine aS (aR ?_) | refine aS (aS (aR ?_)) | refine aR ?_ | refine aS (aS (aS (aR ?_)))
  first | refine oC (oM rfl (Conv.of rfl) rfl) ?_ | refine oC (op_mvl rfl rfl rfl rfl) ?_ | refine oC (op_mvo rfl rfl rfl rfl) ?_
  refine oC (oL fb57 (.cons rfl (Conv.of rfl) (.nil _)) (votersOk_ct _) (aK rfl rfl aK0) rfl rfl) ?_
  refine oC (op_not rfl rfl) ?_
  first | refine oC (oA rfl (Conv.of rfl) rfl) ?_ | refine oC (op_asl rfl rfl rfl rfl) ?_ | refine oC (op_aso rfl rfl rfl rfl) ?_
  refine oN ?_
  refine aT ?_
  repeat first | refine rS ?_ | refine rB ?_
  exact finP (.v rfl (Conv.of rfl)) rfl rfl
theorem indexI_ct (l : List (List Int)) (fn : FuncId) (fa fc : List FV) (hO : Nat → Wt.Obj) (p : List Int → Bool) (hB : fnB Tryz.prog fn = true)
    (hf : ∀ x ∈ l, Ct Tryz.prog fn (avs fa ++ [.v x] ++ avs fc) hO (fun r1 h1 => r1 = .v (p x) ∧ h1 = hO)) (hd : ∀ z ∈ avs fa ++ avs fc, Hand hO z) (hH : ∀ o, obOk (pH hO) (hO o)) :
    Ct Tryz.prog 111 [.v l, .fn fn fa fc] hO (fun r1 h1 => r1 = .v (ixf p l 0) ∧ h1 = hO) := by
  refine Ct.intro Tryz.func111 rfl rfl ?_
  refine awp_bigL 0 rfl (fun hb => ?_)
  first | refine aS (aR ?_) | refine aS (aS (aR ?_)) | refine aR ?_ | refine aS (aS (aS (aR ?_)))
  refine oC (oA rfl (Conv.of rfl) rfl) ?_
  refine oN ?_
  first | refine aS (aR ?_) | refine aS (aS (aR ?_)) | refine aR ?_ | refine aS (aS (aS (aR ?_)))
  first | refine oC (oM rfl (Conv.of rfl) rfl) ?_ | refine oC (op_mvl rfl rfl rfl rfl) ?_ | refine oC (op_mvo rfl rfl rfl rfl) ?_
  first | refine oC (oE sl28 rfl rfl) ?_ | refine oC (oEA sl28 rfl rfl rfl) ?_
  refine oC (oM rfl (Conv.of rfl) rfl) ?_
  refine oN ?_
  first | refine aS (aB ?_) | refine aS (aS (aB ?_)) | refine aB ?_ | refine aS (aS (aS (aB ?_)))
  first | refine aS (awp_loop' (fun n s => ∃ (k : Nat), ∃ (hn : n + k = l.length), ∃ (hall : ixf p l 0 = ixf p (l.drop k) k), s = mkStH 19 [(0, .v l), (1, .fn fn fa fc), (7, .v (l.length : Int)), (8, .v (k : Int))] hO) (l.length) ⟨0, by omega, rfl, rfl⟩ (Le.mkH rfl (tlh rfl (rfl) (tlh rfl (rfl) (tlh rfl (rfl) (tlh rfl (rfl) tln)))) rfl) ?_) | refine aS (aS (awp_loop' (fun n s => ∃ (k : Nat), ∃ (hn : n + k = l.length), ∃ (hall : ixf p l 0 = ixf p (l.drop k) k), s = mkStH 19 [(0, .v l), (1, .fn fn fa fc), (7, .v (l.length : Int)), (8, .v (k : Int))] hO) (l.length) ⟨0, by omega, rfl, rfl⟩ (Le.mkH rfl (tlh rfl (rfl) (tlh rfl (rfl) (tlh rfl (rfl) (tlh rfl (rfl) tln)))) rfl) ?_)) | refine awp_loop' (fun n s => ∃ (k : Nat), ∃ (hn : n + k = l.length), ∃ (hall : ixf p l 0 = ixf p (l.drop k) k), s = mkStH 19 [(0, .v l), (1, .fn fn fa fc), (7, .v (l.length : Int)), (8, .v (k : Int))] hO) (l.length) ⟨0, by omega, rfl, rfl⟩ (Le.mkH rfl (tlh rfl (rfl) (tlh rfl (rfl) (tlh rfl (rfl) (tlh rfl (rfl) tln)))) rfl) ?_ | refine aS (aS (aS (awp_loop' (fun n s => ∃ (k : Nat), ∃ (hn : n + k = l.length), ∃ (hall : ixf p l 0 = ixf p (l.drop k) k), s = mkStH 19 [(0, .v l), (1, .fn fn fa fc), (7, .v (l.length : Int)), (8, .v (k : Int))] hO) (l.length) ⟨0, by omega, rfl, rfl⟩ (Le.mkH rfl (tlh rfl (rfl) (tlh rfl (rfl) (tlh rfl (rfl) (tlh rfl (rfl) tln)))) rfl) ?_)))
  rintro n s ⟨k, hn, hall, rfl⟩
  first | refine aS (aR ?_) | refine aS (aS (aR ?_)) | refine aR ?_ | refine aS (aS (aS (aR ?_)))
  refine oC (oLt rfl rfl rfl) ?_
  refine oN ?_
  first | refine aS (aC rfl (fun h => ?_) (fun h => ?_)) | refine aS (aS (aC rfl (fun h => ?_) (fun h => ?_))) | refine aC rfl (fun h => ?_) (fun h => ?_) | refine aS (aS (aS (aC rfl (fun h => ?_) (fun h => ?_))))
  · have hlt : k < l.length := by simpa using h
    have hx : l[k]? = some l[k] := List.getElem?_eq_getElem hlt
    have hs := ixf_drop (p := p) hx
    refine aW ?_
    first | refine aS (aB ?_) | refine aS (aS (aB ?_)) | refine aB ?_ | refine aS (aS (aS (aB ?_)))
    first | refine aS (aR ?_) | refine aS (aS (aR ?_)) | refine aR ?_ | refine aS (aS (aS (aR ?_)))
    first | refine oC (oM rfl (Conv.of rfl) rfl) ?_ | refine oC (op_mvl rfl rfl rfl rfl) ?_ | refine oC (op_mvo rfl rfl rfl rfl) ?_
    first | refine oC (oA rfl (Conv.of rfl) rfl) ?_ | refine oC (op_asl rfl rfl rfl rfl) ?_ | refine oC (op_aso rfl rfl rfl rfl) ?_
    refine oN ?_
    first | refine aS (aR ?_) | refine aS (aS (aR ?_)) | refine aR ?_ | refine aS (aS (aS (aR ?_)))
    first | refine oC (oM rfl (Conv.of (Hand.fn hd).1) rfl) ?_ | refine oC (op_mvl rfl rfl rfl rfl) ?_ | refine oC (op_mvo rfl rfl rfl rfl) ?_
    first | refine oC (oM rfl (Conv.of rfl) rfl) ?_ | refine oC (op_mvl rfl rfl rfl rfl) ?_ | refine oC (op_mvo rfl rfl rfl rfl) ?_
    first | refine oC (oM rfl (Conv.of rfl) rfl) ?_ | refine oC (op_mvl rfl rfl rfl rfl) ?_ | refine oC (op_mvo rfl rfl rfl rfl) ?_
    first | refine oC (op_ix sl28 rfl rfl rfl (by omega) hx) ?_ | refine oC (op_ixA sl28 rfl rfl rfl rfl (by omega)) ?_
    first | refine oC (oD ty93 rfl rfl rfl) ?_ | refine oC (oDR ty93 rfl rfl) ?_ | refine oC (op_lde ty93 rfl rfl (by assumption) rfl) ?_ | refine oC (op_ldl ty93 rfl rfl rfl) ?_ | refine oC (op_ldd ty93 rfl rfl rfl) ?_ | refine oC (op_ldde ty93 rfl rfl (by assumption) rfl) ?_
    refine awpOps_callH rfl hB (.cons rfl (Conv.of rfl) (.nil _)) rfl (hf _ (List.getElem_mem hlt)) (Hand.with hd (Hand.l1 (Hand.of rfl rfl) Hand.l0)) hH rfl rfl ?_
    refine oN ?_
    first | refine aS (aC rfl (fun h => ?_) (fun h => ?_)) | refine aS (aS (aC rfl (fun h => ?_) (fun h => ?_))) | refine aC rfl (fun h => ?_) (fun h => ?_) | refine aS (aS (aS (aC rfl (fun h => ?_) (fun h => ?_))))
    · first | refine aS (aR ?_) | refine aS (aS (aR ?_)) | refine aR ?_ | refine aS (aS (aS (aR ?_)))
      first | refine oC (oM rfl (Conv.of rfl) rfl) ?_ | refine oC (op_mvl rfl rfl rfl rfl) ?_ | refine oC (op_mvo rfl rfl rfl rfl) ?_
      first | refine oC (oA rfl (Conv.of rfl) rfl) ?_ | refine oC (op_asl rfl rfl rfl rfl) ?_ | refine oC (op_aso rfl rfl rfl rfl) ?_
      refine oN ?_
      refine aT ?_
      repeat first | refine rS ?_ | refine rB ?_
      refine finH (r := .v (k : Int)) (.v rfl (Conv.of rfl)) ?_ rfl
      show AV.v (k : Int) = _
      rw [hall, hs, h]; rfl
    · refine aW ?_
      first | refine aS (aR ?_) | refine aS (aS (aR ?_)) | refine aR ?_ | refine aS (aS (aS (aR ?_)))
      refine oC (oP rfl rfl rfl (by omega)) ?_
      first | refine oC (oM rfl (Conv.of rfl) rfl) ?_ | refine oC (op_mvl rfl rfl rfl rfl) ?_ | refine oC (op_mvo rfl rfl rfl rfl) ?_
      refine oN ?_
      repeat first | refine nS ?_ | refine nB ?_
      exact ⟨n - 1, _, by omega, ⟨k + 1, by omega, by rw [hall, hs, h]; rfl, rfl⟩, Le.mkH rfl (tlh rfl (rfl) (tlh rfl (rfl) (tlh rfl (rfl) (tlh rfl (rfl) tln)))) rfl⟩
  · refine aE ?_
    repeat refine ex_seq ?_
    refine eB ?_
    have hk : l.length ≤ k := by simpa using h
    first | refine aS (aR ?_) | refine aS (aS (aR ?_)) | refine aR ?_ | refine aS (aS (aS (aR ?_)))
    refine oC (oA rfl (Conv.of rfl) rfl) ?_
    refine oN ?_
    refine aT ?_
    repeat first | refine rS ?_ | refine rB ?_
    refine finH (r := .v (-1 : Int)) (.v rfl (Conv.of rfl)) ?_ rfl
    show AV.v (-1 : Int) = _
    rw [hall, drop_end hk]; rfl
theorem containsI_ct (l : List (List Int)) (fn : FuncId) (fa fc : List FV) (hO : Nat → Wt.Obj) (p : List Int → Bool) (hB : fnB Tryz.prog fn = true)
    (hf : ∀ x ∈ l, Ct Tryz.prog fn (avs fa ++ [.v x] ++ avs fc) hO (fun r1 h1 => r1 = .v (p x) ∧ h1 = hO)) (hd : ∀ z ∈ avs fa ++ avs fc, Hand hO z) (hH : ∀ o, obOk (pH hO) (hO o)) :
    Ct Tryz.prog 55 [.v l, .fn fn fa fc] hO (fun r1 h1 => r1 = .v (l.any p) ∧ h1 = hO) := by
  refine Ct.intro Tryz.func55 rfl rfl ?_
  first | refine aS (aR ?_) | refine aS (aS (aR ?_)) | refine aR ?_ | refine aS (aS (aS (aR ?_)))
  refine oC (oA rfl (Conv.of rfl) rfl) ?_
  refine oN ?_
  first | refine aS (aR ?_) | refine aS (aS (aR ?_)) | refine aR ?_ | refine aS (aS (aS (aR ?_)))
  first | refine oC (oM rfl (Conv.of rfl) rfl) ?_ | refine oC (op_mvl rfl rfl rfl rfl) ?_ | refine oC (op_mvo rfl rfl rfl rfl) ?_
  first | refine oC (oM rfl (Conv.of (Hand.fn hd).1) rfl) ?_ | refine oC (op_mvl rfl rfl rfl rfl) ?_ | refine oC (op_mvo rfl rfl rfl rfl) ?_
  refine awpOps_callH rfl (fb111) (.cons rfl (Conv.of rfl) (.cons rfl (Conv.of (Hand.fn hd).1) (.nil _))) rfl (indexI_ct l fn fa fc hO p hB hf hd hH) (Hand.none (Hand.l1 (Hand.of rfl rfl) (Hand.l1 (Hand.fn hd) Hand.l0))) hH rfl rfl ?_
  refine oC (op_geq rfl rfl rfl) ?_
  first | refine oC (oA rfl (Conv.of rfl) rfl) ?_ | refine oC (op_asl rfl rfl rfl rfl) ?_ | refine oC (op_aso rfl rfl rfl rfl) ?_
  refine oN ?_
  refine aT ?_
  repeat first | refine rS ?_ | refine rB ?_
  refine finH (r := .v (decide (0 ≤ ixf p l 0))) (.v rfl (Conv.of rfl)) ?_ rfl
  show AV.v (decide _) = _
  rw [ixf_any p l 0 (Int.le_refl _)]
theorem any_voters (l : List (List Int)) : (l.any fun x => !votersOk x) = !l.all votersOk := by
  induction l with
  | nil => rfl
  | cons x l ih => simp only [List.any_cons, List.all_cons, ih, Bool.not_and]
set_option maxHeartbeats 2000000 in
theorem certOk_ct (c : Cert) (hc : c.chain.length ≤ 1000000) : CtP Tryz.prog 11 [.v c] (.v (certOk c)) := by
  have hcf : chainOk c.chain = true → CtP Tryz.prog 54 [.v c.chain] (.v (finLen c.chain)) := fun e => final_ct _ (fun x hx => by have := chainOk_ep e x hx; omega)
  have hfn := containsI_ct c.by_ 56 [] [] noObj (fun x => !votersOk x) fb56 (fun x hx => okFn2_ct x) (by intro z hz; simp [avs] at hz) noH
  rw [any_voters] at hfn
  refine Ct.intro Tryz.func11 rfl rfl ?_
  all_goals first | refine aS (aR ?_) | refine aS (aS (aR ?_)) | refine aR ?_ | refine aS (aS (aS (aR ?_)))
  all_goals first | refine oC (op_box (o := 0) ty30 rfl (Conv.of rfl) rfl rfl) ?_ | refine oC (op_boxm (o := 0) ty30 rfl rfl rfl rfl) ?_
  all_goals refine oC (oA rfl (Conv.of rfl) rfl) ?_
  all_goals refine oN ?_
  first | refine aS (aS (aS (aST (s' := mkSt 33 [(1, .box 0 (IsLens.whole Cert)), (22, .v (!(chainOk c.chain && decide (3 ≤ c.chain.length) && decide (finLen c.chain = (c.chain.length : Int) - 1))))] [(0, .cell c)]) ?_ ?_))) | refine aS (aS (aST (s' := mkSt 33 [(1, .box 0 (IsLens.whole Cert)), (22, .v (!(chainOk c.chain && decide (3 ≤ c.chain.length) && decide (finLen c.chain = (c.chain.length : Int) - 1))))] [(0, .cell c)]) ?_ ?_)) | refine aS (aST (s' := mkSt 33 [(1, .box 0 (IsLens.whole Cert)), (22, .v (!(chainOk c.chain && decide (3 ≤ c.chain.length) && decide (finLen c.chain = (c.chain.length : Int) - 1))))] [(0, .cell c)]) ?_ ?_) | refine aST (s' := mkSt 33 [(1, .box 0 (IsLens.whole Cert)), (22, .v (!(chainOk c.chain && decide (3 ≤ c.chain.length) && decide (finLen c.chain = (c.chain.length : Int) - 1))))] [(0, .cell c)]) ?_ ?_ | refine awp_toB (s' := mkSt 33 [(1, .box 0 (IsLens.whole Cert)), (22, .v (!(chainOk c.chain && decide (3 ≤ c.chain.length) && decide (finLen c.chain = (c.chain.length : Int) - 1))))] [(0, .cell c)]) ?_ ?_ | refine awp_to (s' := mkSt 33 [(1, .box 0 (IsLens.whole Cert)), (22, .v (!(chainOk c.chain && decide (3 ≤ c.chain.length) && decide (finLen c.chain = (c.chain.length : Int) - 1))))] [(0, .cell c)]) ?_ ?_
  · all_goals first | refine aS (dS ?_) | refine aS (aS (dS ?_)) | refine dS ?_ | refine aS (aS (aS (dS ?_)))
    all_goals first | refine dC (oF f30_0 rfl rfl) ?_ | refine dC (oFR f30_0 rfl rfl) ?_ | refine dC (oFE f30_0 rfl rfl) ?_
    all_goals first | refine dC (oD ty27 rfl rfl rfl) ?_ | refine dC (oDR ty27 rfl rfl) ?_ | refine dC (op_lde ty27 rfl rfl (by assumption) rfl) ?_ | refine dC (op_ldl ty27 rfl rfl rfl) ?_ | refine dC (op_ldd ty27 rfl rfl rfl) ?_ | refine dC (op_ldde ty27 rfl rfl (by assumption) rfl) ?_
    all_goals refine dC (oL fb53 (.cons rfl (Conv.of rfl) (.nil _)) (chainOk_ct _) (aK rfl rfl aK0) rfl rfl) ?_
    all_goals refine dC (op_not rfl rfl) ?_
    all_goals first | refine dC (oM rfl (Conv.of rfl) rfl) ?_ | refine dC (op_mvl rfl rfl rfl rfl) ?_ | refine dC (op_mvo rfl rfl rfl rfl) ?_
    all_goals first | refine dr_lit (t := 7) (b := true) rfl ?_ | refine dr_lit (t := 7) (b := false) rfl ?_ | refine dr_ulit (t := 7) rfl ?_ | refine dr_split (t := 7) rfl (fun h => ?_) (fun h => ?_)
    all_goals first | refine dC (gF rfl rfl rfl rfl rfl) ?_ | refine dC (g_und rfl rfl rfl) ?_ | refine dC (gN rfl rfl rfl (oF f30_0 rfl rfl)) ?_ | refine dC (gN rfl rfl rfl (oFR f30_0 rfl rfl)) ?_ | refine dC (gN rfl rfl rfl (oFE f30_0 rfl rfl)) ?_
    all_goals first | refine dC (gF rfl rfl rfl rfl rfl) ?_ | refine dC (g_und rfl rfl rfl) ?_ | refine dC (gN rfl rfl rfl (oD ty27 rfl rfl rfl)) ?_ | refine dC (gN rfl rfl rfl (oDR ty27 rfl rfl)) ?_ | refine dC (gN rfl rfl rfl (op_lde ty27 rfl rfl (by assumption) rfl)) ?_ | refine dC (gN rfl rfl rfl (op_ldl ty27 rfl rfl rfl)) ?_ | refine dC (gN rfl rfl rfl (op_ldd ty27 rfl rfl rfl)) ?_ | refine dC (gN rfl rfl rfl (op_ldde ty27 rfl rfl (by assumption) rfl)) ?_
    all_goals first | refine dC (gF rfl rfl rfl rfl rfl) ?_ | refine dC (g_und rfl rfl rfl) ?_ | refine dC (gN rfl rfl rfl (oE sl27 rfl rfl)) ?_ | refine dC (gN rfl rfl rfl (oEA sl27 rfl rfl rfl)) ?_
    all_goals first | refine dC (gF rfl rfl rfl rfl rfl) ?_ | refine dC (g_und rfl rfl rfl) ?_ | refine dC (gN rfl rfl rfl (oLt rfl rfl rfl)) ?_
    all_goals refine dC (oQ rfl rfl rfl rfl) ?_
    all_goals first | refine dC (oM rfl (Conv.of rfl) rfl) ?_ | refine dC (op_mvl rfl rfl rfl rfl) ?_ | refine dC (op_mvo rfl rfl rfl rfl) ?_
    all_goals first | refine dr_lit (t := 13) (b := true) rfl ?_ | refine dr_lit (t := 13) (b := false) rfl ?_ | refine dr_ulit (t := 13) rfl ?_ | refine dr_split (t := 13) rfl (fun h => ?_) (fun h => ?_)
    all_goals first | refine dC (gF rfl rfl rfl rfl rfl) ?_ | refine dC (g_und rfl rfl rfl) ?_ | refine dC (gN rfl rfl rfl (oF f30_0 rfl rfl)) ?_ | refine dC (gN rfl rfl rfl (oFR f30_0 rfl rfl)) ?_ | refine dC (gN rfl rfl rfl (oFE f30_0 rfl rfl)) ?_
    all_goals first | refine dC (gF rfl rfl rfl rfl rfl) ?_ | refine dC (g_und rfl rfl rfl) ?_ | refine dC (gN rfl rfl rfl (oD ty27 rfl rfl rfl)) ?_ | refine dC (gN rfl rfl rfl (oDR ty27 rfl rfl)) ?_ | refine dC (gN rfl rfl rfl (op_lde ty27 rfl rfl (by assumption) rfl)) ?_ | refine dC (gN rfl rfl rfl (op_ldl ty27 rfl rfl rfl)) ?_ | refine dC (gN rfl rfl rfl (op_ldd ty27 rfl rfl rfl)) ?_ | refine dC (gN rfl rfl rfl (op_ldde ty27 rfl rfl (by assumption) rfl)) ?_
    all_goals first | refine dC (gF rfl rfl rfl rfl rfl) ?_ | refine dC (g_und rfl rfl rfl) ?_ | refine dC (gN rfl rfl rfl (oL fb54 (.cons rfl (Conv.of rfl) (.nil _)) (hcf (by simp_all)) (aK rfl rfl aK0) rfl rfl)) ?_
    all_goals first | refine dC (gF rfl rfl rfl rfl rfl) ?_ | refine dC (g_und rfl rfl rfl) ?_ | refine dC (gN rfl rfl rfl (oF f30_0 rfl rfl)) ?_ | refine dC (gN rfl rfl rfl (oFR f30_0 rfl rfl)) ?_ | refine dC (gN rfl rfl rfl (oFE f30_0 rfl rfl)) ?_
    all_goals first | refine dC (gF rfl rfl rfl rfl rfl) ?_ | refine dC (g_und rfl rfl rfl) ?_ | refine dC (gN rfl rfl rfl (oD ty27 rfl rfl rfl)) ?_ | refine dC (gN rfl rfl rfl (oDR ty27 rfl rfl)) ?_ | refine dC (gN rfl rfl rfl (op_lde ty27 rfl rfl (by assumption) rfl)) ?_ | refine dC (gN rfl rfl rfl (op_ldl ty27 rfl rfl rfl)) ?_ | refine dC (gN rfl rfl rfl (op_ldd ty27 rfl rfl rfl)) ?_ | refine dC (gN rfl rfl rfl (op_ldde ty27 rfl rfl (by assumption) rfl)) ?_
    all_goals first | refine dC (gF rfl rfl rfl rfl rfl) ?_ | refine dC (g_und rfl rfl rfl) ?_ | refine dC (gN rfl rfl rfl (oE sl27 rfl rfl)) ?_ | refine dC (gN rfl rfl rfl (oEA sl27 rfl rfl rfl)) ?_
    all_goals first | refine dC (gF rfl rfl rfl rfl rfl) ?_ | refine dC (g_und rfl rfl rfl) ?_ | refine dC (gN rfl rfl rfl (op_sub rfl rfl rfl (by omega))) ?_
    all_goals first | refine dC (gF rfl rfl rfl rfl rfl) ?_ | refine dC (g_und rfl rfl rfl) ?_ | refine dC (gN rfl rfl rfl (op_neq rfl rfl rfl)) ?_
    all_goals refine dC (oQ rfl rfl rfl rfl) ?_
    all_goals refine dr_nil mixed rfl ?_
    all_goals exact Le.mk rfl (tlb rfl rfl rfl (tle rfl (by first | rfl | (show AV.v _ = AV.v _; simp_all; try first | omega | (rename_i hq; have h3 : 3 ≤ c.chain.length := (by omega); rw [Bool.eq_iff_iff]; simp [h3]) | (have h3 : 3 ≤ c.chain.length := (by omega); rw [Bool.eq_iff_iff]; simp [h3]))) rfl tln)) (olk rfl (by first | exact bC | exact bA | exact obOkW rfl | exact obOkW0 | exact obOkN | exact obOkS rfl | exact bN | exact obOkS0 | trivial) oln) noS
  first | refine aS (aC rfl (fun h0 => ?_) (fun h0 => ?_)) | refine aS (aS (aC rfl (fun h0 => ?_) (fun h0 => ?_))) | refine aC rfl (fun h0 => ?_) (fun h0 => ?_) | refine aS (aS (aS (aC rfl (fun h0 => ?_) (fun h0 => ?_))))
  · all_goals first | refine aS (aR ?_) | refine aS (aS (aR ?_)) | refine aR ?_ | refine aS (aS (aS (aR ?_)))
    all_goals refine oC (oA rfl (Conv.of rfl) rfl) ?_
    all_goals refine oN ?_
    refine aT ?_
    repeat first | refine rS ?_ | refine rB ?_
    refine finP (.v rfl (Conv.of rfl)) rfl ?_
    show AV.v false = _
    rw [certOk, not_t h0]; rfl
  · refine aW ?_
    have h0' := not_f h0
    all_goals first | refine aS (aR ?_) | refine aS (aS (aR ?_)) | refine aR ?_ | refine aS (aS (aS (aR ?_)))
    all_goals first | refine oC (oF f30_1 rfl rfl) ?_ | refine oC (oFR f30_1 rfl rfl) ?_ | refine oC (oFE f30_1 rfl rfl) ?_
    all_goals first | refine oC (oD ty28 rfl rfl rfl) ?_ | refine oC (oDR ty28 rfl rfl) ?_ | refine oC (op_lde ty28 rfl rfl (by assumption) rfl) ?_ | refine oC (op_ldl ty28 rfl rfl rfl) ?_ | refine oC (op_ldd ty28 rfl rfl rfl) ?_ | refine oC (op_ldde ty28 rfl rfl (by assumption) rfl) ?_
    all_goals first | refine oC (oE sl28 rfl rfl) ?_ | refine oC (oEA sl28 rfl rfl rfl) ?_
    all_goals refine oC (op_eql rfl rfl rfl) ?_
    all_goals first | refine oC (oM rfl (Conv.of rfl) rfl) ?_ | refine oC (op_mvl rfl rfl rfl rfl) ?_ | refine oC (op_mvo rfl rfl rfl rfl) ?_
    all_goals first | refine g_lit (t := 27) (b := true) rfl ?_ | refine g_lit (t := 27) (b := false) rfl ?_ | refine g_ulit (t := 27) rfl ?_ | refine g_split (t := 27) rfl (fun h => ?_) (fun h => ?_)
    all_goals first | refine oC (gF rfl rfl rfl rfl rfl) ?_ | refine oC (g_und rfl rfl rfl) ?_ | refine oC (gN rfl rfl rfl (oF f30_1 rfl rfl)) ?_ | refine oC (gN rfl rfl rfl (oFR f30_1 rfl rfl)) ?_ | refine oC (gN rfl rfl rfl (oFE f30_1 rfl rfl)) ?_
    all_goals first | refine oC (gF rfl rfl rfl rfl rfl) ?_ | refine oC (g_und rfl rfl rfl) ?_ | refine oC (gN rfl rfl rfl (oD ty28 rfl rfl rfl)) ?_ | refine oC (gN rfl rfl rfl (oDR ty28 rfl rfl)) ?_ | refine oC (gN rfl rfl rfl (op_lde ty28 rfl rfl (by assumption) rfl)) ?_ | refine oC (gN rfl rfl rfl (op_ldl ty28 rfl rfl rfl)) ?_ | refine oC (gN rfl rfl rfl (op_ldd ty28 rfl rfl rfl)) ?_ | refine oC (gN rfl rfl rfl (op_ldde ty28 rfl rfl (by assumption) rfl)) ?_
    all_goals first | refine oC (gF rfl rfl rfl rfl rfl) ?_ | refine oC (g_und rfl rfl rfl) ?_ | refine oC (gN rfl rfl rfl (oL fb55 (.cons rfl (Conv.of rfl) (.cons rfl (Conv.of rfl) (.nil _))) (hfn) (aK rfl rfl (aK rfl rfl aK0)) rfl rfl)) ?_
    all_goals first | refine oC (gF rfl rfl rfl rfl rfl) ?_ | refine oC (g_und rfl rfl rfl) ?_ | refine oC (gN rfl rfl rfl (op_not rfl rfl)) ?_
    all_goals refine oC (oQ rfl rfl rfl rfl) ?_
    all_goals first | refine oC (oA rfl (Conv.of rfl) rfl) ?_ | refine oC (op_asl rfl rfl rfl rfl) ?_ | refine oC (op_aso rfl rfl rfl rfl) ?_
    all_goals refine oN ?_
    all_goals refine aT ?_
    all_goals refine finP (.v rfl (Conv.of rfl)) rfl ?_
    all_goals (show AV.v _ = AV.v _; congr 1; rw [certOk, h0']; simp_all; try omega)
theorem prefix_ct (c : Cert) (k : Int) (h : 0 ≤ k ∧ k ≤ 2) (hc : 2 ≤ c.chain.length ∧ c.chain.length ≤ 1000000) (hk : c.chain.length - 2 + k.toNat ≤ c.chain.length) : CtP Tryz.prog 59 [.v c, .v k] (.v (preC c.chain k.toNat)) := by
  have e : ((c.chain.length : Int) - 3 + 1 + k).toNat = c.chain.length - 2 + k.toNat := by omega
  refine Ct.intro Tryz.func59 rfl rfl ?_
  first | refine aS (aR ?_) | refine aS (aS (aR ?_)) | refine aR ?_ | refine aS (aS (aS (aR ?_)))
  first | refine oC (op_box (o := 0) ty30 rfl (Conv.of rfl) rfl rfl) ?_ | refine oC (op_boxm (o := 0) ty30 rfl rfl rfl rfl) ?_
  refine oC (oA rfl (Conv.of rfl) rfl) ?_
  refine oN ?_
  first | refine aS (aR ?_) | refine aS (aS (aR ?_)) | refine aR ?_ | refine aS (aS (aS (aR ?_)))
  first | refine oC (oF f30_0 rfl rfl) ?_ | refine oC (oFR f30_0 rfl rfl) ?_ | refine oC (oFE f30_0 rfl rfl) ?_
  first | refine oC (oD ty27 rfl rfl rfl) ?_ | refine oC (oDR ty27 rfl rfl) ?_ | refine oC (op_lde ty27 rfl rfl (by assumption) rfl) ?_ | refine oC (op_ldl ty27 rfl rfl rfl) ?_ | refine oC (op_ldd ty27 rfl rfl rfl) ?_ | refine oC (op_ldde ty27 rfl rfl (by assumption) rfl) ?_
  first | refine oC (oF f30_0 rfl rfl) ?_ | refine oC (oFR f30_0 rfl rfl) ?_ | refine oC (oFE f30_0 rfl rfl) ?_
  first | refine oC (oD ty27 rfl rfl rfl) ?_ | refine oC (oDR ty27 rfl rfl) ?_ | refine oC (op_lde ty27 rfl rfl (by assumption) rfl) ?_ | refine oC (op_ldl ty27 rfl rfl rfl) ?_ | refine oC (op_ldd ty27 rfl rfl rfl) ?_ | refine oC (op_ldde ty27 rfl rfl (by assumption) rfl) ?_
  first | refine oC (oE sl27 rfl rfl) ?_ | refine oC (oEA sl27 rfl rfl rfl) ?_
  refine oC (op_sub rfl rfl rfl (by omega)) ?_
  refine oC (oP rfl rfl rfl (by omega)) ?_
  first | refine oC (oM rfl (Conv.of rfl) rfl) ?_ | refine oC (op_mvl rfl rfl rfl rfl) ?_ | refine oC (op_mvo rfl rfl rfl rfl) ?_
  refine oC (oP rfl rfl rfl (by omega)) ?_
  refine oC (op_slh sl27 rfl rfl rfl (by omega)) ?_
  first | refine oC (oA rfl (Conv.of rfl) rfl) ?_ | refine oC (op_asl rfl rfl rfl rfl) ?_ | refine oC (op_aso rfl rfl rfl rfl) ?_
  refine oN ?_
  refine aT ?_
  repeat first | refine rS ?_ | refine rB ?_
  refine finP (.v rfl (Conv.of rfl)) rfl ?_
  show AV.v _ = AV.v _
  congr 1
  rw [preC, e]
end Go.Proofs.YtmhmeppocbcmeaaGreat
