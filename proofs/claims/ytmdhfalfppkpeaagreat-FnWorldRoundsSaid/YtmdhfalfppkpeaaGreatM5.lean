/- Part 5 of the proof: texts one behind the other. -/
import Derived.Test.YtmdhfalfppkpeaaGreatM4
import Derived.Below
import Derived.SizedLaws
import Derived.ChangeSlices
/- The reference: further draws. -/
set_option linter.unusedVariables false
set_option linter.unusedSimpArgs false
namespace Go.Proofs.YtmdhfalfppkpeaaGreat
open Go Go.Wt
set_option maxHeartbeats 1000000 in
theorem anyPay_ct (r : Rd) (hp : Far 800000 r) : CtO Tryz.prog 73 [.box 0 (IsLens.whole Rd)] [(0, .cell r)] (.v (anyPayF r).1) [(0, .cell (anyPayF r).2)] := by
  have hp3 : Far 800003 (nx r 3) := hp.nx (by omega) (by omega)
  have hp4 : Far 800004 (nx (nx r 3) 1) := hp3.nx (by omega) (by omega)
  have e4 : nx (nx r 3) 1 = nx r 4 := nx_nx r 3 1
  have e5 : nx (nx (nx r 3) 1) 1 = nx r 5 := by rw [e4]; exact nx_nx r 4 1
  have b2 := pk_bd hp4 (by omega) 2
  have c2 := b2.2 (by omega)
  have g1 := gi_get (l := [0, 10]) b2.1 (by simp; omega)
  have g2 := gi_get (l := [0, 4]) b2.1 (by simp; omega)
  refine Ct.intro Tryz.func73 rfl rfl ?_
  all_goals refine awp_seq (awp_region (id := 0) ?_)
  all_goals refine awpOps_cons (op_alloc (o := 2) z58 rfl rfl) ?_
  all_goals refine awpOps_nil ?_
  all_goals refine awp_seq (awp_region (id := 1) ?_)
  all_goals refine awpOps_cons (op_mv rfl (Conv.of rfl) rfl) ?_
  all_goals refine awpOps_cons (op_callO fb87 (.cons rfl (Conv.of rfl) (.nil _)) (l71Pay_ct r (hp.weak (by omega))) (olsk rfl ols0) (oksk (by exact obOk_cell) oks0) (oksk (by exact obOk_cell) oks0) rfl (argOb rfl rfl rfl argO0) (fun o ho => by cases ho) rfl) ?_
  all_goals refine awpOps_cons (op_alloc (o := 3) z58 rfl rfl) ?_
  all_goals refine awpOps_cons (op_st ty58 rfl rfl (Conv.of rfl) rfl) ?_
  all_goals refine awpOps_nil ?_
  all_goals refine awp_seq (awp_seq (awp_region (id := 2) ?_))
  all_goals refine awpOps_cons (op_mv rfl (Conv.of rfl) rfl) ?_
  all_goals refine awpOps_cons (op_callO fb54 (.cons rfl (Conv.of rfl) (.cons rfl (Conv.of rfl) (.nil _))) (pick_ct (nx r 3) 12 (by unfold Far at hp3; omega)) (olsk rfl ols0) (oksk (by exact obOk_cell) oks0) (oksk (by exact obOk_cell) oks0) rfl (argOb rfl rfl rfl (argOk' rfl rfl argO0)) (fun o ho => by cases ho) rfl) ?_
  all_goals refine awpOps_nil ?_
  refine awp_to (s' := mkSt 30 [(2, .box 2 (IsLens.whole Pay)), (3, .box 3 (IsLens.whole Pay))] [(0, .cell (anyPayF r).2), (2, .cell Pay.zero), (3, .cell (anyPayF r).1)]) ?_ ?_
  · refine awp_block ?_
    all_goals refine awp_seq (awp_region (id := 3) ?_)
    all_goals refine awpOps_cons (op_eql rfl rfl rfl) ?_
    all_goals refine awpOps_cons (op_as rfl (Conv.of rfl) rfl) ?_
    all_goals refine awpOps_nil ?_
    refine awp_cond rfl (fun h => ?_) (fun h => ?_)
    · have hk := of_decide_eq_true h
      rw [show anyPayF r = ({ payV r with to := (payV r).frm }, nx (nx r 3) 1) by unfold anyPayF; rw [if_pos hk, e4]]
      all_goals refine awp_region (id := 4) ?_
      all_goals refine awpOps_cons (op_fab f58_0 rfl rfl) ?_
      all_goals refine awpOps_cons (op_ld ty3 rfl rfl rfl) ?_
      all_goals refine awpOps_cons (op_fab f58_1 rfl rfl) ?_
      all_goals refine awpOps_cons (op_st ty3 rfl rfl (Conv.of rfl) rfl) ?_
      all_goals refine awpOps_nil ?_
      repeat first | refine nx_seq ?_ | refine nx_block ?_
      all_goals exact Le.mk rfl (tlb rfl rfl rfl (tlb rfl rfl rfl tln)) (olk rfl (by exact obOk_cell) (olk rfl (by exact obOk_cell) (olk rfl (by exact obOk_cell) oln))) (hS_sub (a := [(0, .cell r)]) rfl)
    · have hk := of_decide_eq_false h
      all_goals refine awp_seq (awp_region (id := 5) ?_)
      all_goals refine awpOps_cons (op_eql rfl rfl rfl) ?_
      all_goals refine awpOps_cons (op_as rfl (Conv.of rfl) rfl) ?_
      all_goals refine awpOps_nil ?_
      refine awp_cond rfl (fun h2 => ?_) (fun h2 => ?_)
      · have hk2 := of_decide_eq_true h2
        rw [show anyPayF r = ({ payV r with sum := gi [0, 10] (pk (nx (nx r 3) 1) 2) }, nx (nx (nx r 3) 1) 1) by unfold anyPayF; rw [if_neg hk, if_pos hk2, e5, e4]]
        all_goals refine awp_region (id := 6) ?_
        all_goals refine awpOps_cons (op_bsl sl61 z3 (.cons rfl (Conv.of rfl) (.cons rfl (Conv.of rfl) (.nil _))) rfl (by decide) rfl) ?_
        all_goals refine awpOps_cons (op_mv rfl (Conv.of rfl) rfl) ?_
        all_goals refine awpOps_cons (op_callO fb54 (.cons rfl (Conv.of rfl) (.cons rfl (Conv.of rfl) (.nil _))) (pick_ct (nx (nx r 3) 1) 2 (by unfold Far at hp4; omega)) (olsk rfl ols0) (oksk (by exact obOk_cell) oks0) (oksk (by exact obOk_cell) oks0) rfl (argOb rfl rfl rfl (argOk' rfl rfl argO0)) (fun o ho => by cases ho) rfl) ?_
        all_goals refine awpOps_cons (op_ix sl61 rfl rfl rfl b2.1 g1) ?_
        all_goals refine awpOps_cons (op_ldr ty3 rfl rfl) ?_
        all_goals refine awpOps_cons (op_fab f58_2 rfl rfl) ?_
        all_goals refine awpOps_cons (op_st ty3 rfl rfl (Conv.of rfl) rfl) ?_
        all_goals refine awpOps_nil ?_
        repeat first | refine nx_seq ?_ | refine nx_block ?_
        all_goals exact Le.mk rfl (tlb rfl rfl rfl (tlb rfl rfl rfl tln)) (olk rfl (by exact obOk_cell) (olk rfl (by exact obOk_cell) (olk rfl (by exact obOk_cell) oln))) (hS_sub (a := [(0, .cell r)]) rfl)
      · have hk2 := of_decide_eq_false h2
        all_goals refine awp_seq (awp_region (id := 7) ?_)
        all_goals refine awpOps_cons (op_eql rfl rfl rfl) ?_
        all_goals refine awpOps_cons (op_as rfl (Conv.of rfl) rfl) ?_
        all_goals refine awpOps_nil ?_
        refine awp_cond rfl (fun h3 => ?_) (fun h3 => ?_)
        · have hk3 := of_decide_eq_true h3
          rw [show anyPayF r = ({ payV r with frm := gi [0, 4] (pk (nx (nx r 3) 1) 2) }, nx (nx (nx r 3) 1) 1) by unfold anyPayF; rw [if_neg hk, if_neg hk2, if_pos hk3, e5, e4]]
          all_goals refine awp_region (id := 8) ?_
          all_goals refine awpOps_cons (op_bsl sl61 z3 (.cons rfl (Conv.of rfl) (.cons rfl (Conv.of rfl) (.nil _))) rfl (by decide) rfl) ?_
          all_goals refine awpOps_cons (op_mv rfl (Conv.of rfl) rfl) ?_
          all_goals refine awpOps_cons (op_callO fb54 (.cons rfl (Conv.of rfl) (.cons rfl (Conv.of rfl) (.nil _))) (pick_ct (nx (nx r 3) 1) 2 (by unfold Far at hp4; omega)) (olsk rfl ols0) (oksk (by exact obOk_cell) oks0) (oksk (by exact obOk_cell) oks0) rfl (argOb rfl rfl rfl (argOk' rfl rfl argO0)) (fun o ho => by cases ho) rfl) ?_
          all_goals refine awpOps_cons (op_ix sl61 rfl rfl rfl b2.1 g2) ?_
          all_goals refine awpOps_cons (op_ldr ty3 rfl rfl) ?_
          all_goals refine awpOps_cons (op_fab f58_0 rfl rfl) ?_
          all_goals refine awpOps_cons (op_st ty3 rfl rfl (Conv.of rfl) rfl) ?_
          all_goals refine awpOps_nil ?_
          repeat first | refine nx_seq ?_ | refine nx_block ?_
          all_goals exact Le.mk rfl (tlb rfl rfl rfl (tlb rfl rfl rfl tln)) (olk rfl (by exact obOk_cell) (olk rfl (by exact obOk_cell) (olk rfl (by exact obOk_cell) oln))) (hS_sub (a := [(0, .cell r)]) rfl)
        · have hk3 := of_decide_eq_false h3
          rw [show anyPayF r = (payV r, nx (nx r 3) 1) by unfold anyPayF; rw [if_neg hk, if_neg hk2, if_neg hk3, e4]]
          refine awp_skip ?_
          repeat first | refine nx_seq ?_ | refine nx_block ?_
          all_goals exact Le.mk rfl (tlb rfl rfl rfl (tlb rfl rfl rfl tln)) (olk rfl (by exact obOk_cell) (olk rfl (by exact obOk_cell) (olk rfl (by exact obOk_cell) oln))) (hS_sub (a := [(0, .cell r)]) rfl)
  · all_goals refine awp_seq (awp_region (id := 9) ?_)
    all_goals refine awpOps_cons (op_ld ty58 rfl rfl rfl) ?_
    all_goals refine awpOps_cons (op_st ty58 rfl rfl (Conv.of rfl) rfl) ?_
    all_goals refine awpOps_nil ?_
    refine awp_ret ?_
    repeat first | refine rt_seq ?_ | refine rt_block ?_
    exact finO1 [(0, .cell (anyPayF r).2)] (.rc ty58 rfl rfl) (fun o ho => by cases ho) (olk rfl obOk_cell oln) (hS_keys rfl) rfl
set_option maxHeartbeats 1000000 in
theorem chainA_ct (r : Rd) (hp : Far 800000 r) : CtO Tryz.prog 170 [.box 0 (IsLens.whole Rd)] [(0, .cell r)] (.v (NRef.ref 2)) [(0, .cell (chainR r)), (2, .arr (chainV r))] := by
  have b0 := pk_bd hp (by omega) 7
  have c0 := b0.2 (by omega)
  refine Ct.intro Tryz.func170 rfl rfl ?_
  all_goals refine awp_seq (awp_region (id := 0) ?_)
  all_goals refine awpOps_cons (op_as rfl (Conv.of rfl) rfl) ?_
  all_goals refine awpOps_nil ?_
  all_goals refine awp_seq (awp_region (id := 1) ?_)
  all_goals refine awpOps_cons (op_bsa (o := 2) sl34 z60 (.nil _) rfl (by decide) rfl rfl) ?_
  all_goals refine awpOps_cons (op_as rfl (Conv.nr) rfl) ?_
  all_goals refine awpOps_nil ?_
  all_goals refine awp_seq (awp_region (id := 2) ?_)
  all_goals refine awpOps_cons (op_as rfl (Conv.of rfl) rfl) ?_
  all_goals refine awpOps_nil ?_
  all_goals refine awp_seq (awp_seq (awp_region (id := 3) ?_))
  all_goals refine awpOps_cons (op_mv rfl (Conv.of rfl) rfl) ?_
  all_goals refine awpOps_cons (op_callO fb54 (.cons rfl (Conv.of rfl) (.cons rfl (Conv.of rfl) (.nil _))) (pick_ct r 7 (by unfold Far at hp; omega)) (olsk rfl ols0) (oksk (by exact obOk_cell) oks0) (oksk (by exact obOk_cell) oks0) rfl (argOb rfl rfl rfl (argOk' rfl rfl argO0)) (fun o ho => by cases ho) rfl) ?_
  all_goals refine awpOps_cons (op_as rfl (Conv.of rfl) rfl) ?_
  all_goals refine awpOps_nil ?_
  refine awp_block ?_
  refine awp_loop' (fun n_ s => ∃ (k : Nat), ∃ (hk : n_ + k = (pk r 7).toNat), s = mkSt 30 [(3, .v (NRef.ref 2)), (0, .box 0 (IsLens.whole Rd)), (4, .v (chIter r k).1), (5, .v (pk r 7 - (k : Int)))] [(2, .arr (chIter r k).2.1), (0, .cell (chIter r k).2.2)]) ((pk r 7).toNat) ⟨0, by omega, rfl⟩ (Le.mk rfl (tlb rfl rfl rfl (tlb rfl rfl rfl (tle rfl (rfl) rfl (tle rfl (by (show AV.v _ = AV.v _; congr 1; omega)) rfl tln)))) (olk rfl (by exact obOk_arr) (olk rfl (by exact obOk_cell) oln)) (hS_sub (a := [(0, .cell r)]) rfl)) ?_
  rintro n_ s ⟨k, hk, rfl⟩
  have hk6 : k ≤ 6 := by omega
  have hat := chIter_at hp (by omega) k (by omega)
  have hf0 : Far 800500 (chIter r k).2.2 := by rw [chIter_r]; exact hp.nx (by omega) (by omega)
  have hln := chIter_len r k
  all_goals refine awp_seq (awp_seq (awp_region (id := 4) ?_))
  all_goals refine awpOps_cons (op_mv rfl (Conv.of rfl) rfl) ?_
  all_goals refine awpOps_cons (op_gtr rfl rfl rfl) ?_
  all_goals refine awpOps_nil ?_
  refine awp_cond rfl (fun h => ?_) (fun h => ?_)
  · have hlt : (k : Int) < pk r 7 := by have := of_decide_eq_true h; omega
    have hst : chIter r (k + 1) = chStep (chIter r k) := rfl
    generalize hs : chIter r k = s at hat hf0 hln hst
    have hf1 : Far 800501 (nx s.2.2 1) := hf0.nx (by omega) (by omega)
    have hf2 : Far 800502 (nx (nx s.2.2 1) 1) := hf1.nx (by omega) (by omega)
    have d0 := pk_bd hf0 (by omega) 6
    have d1 := pk_bd hf1 (by omega) 3
    have e0 := d0.2 (by omega)
    have e1 := d1.2 (by omega)
    have hq : IntKind.i64.wrap ((pk s.2.2 6).tdiv 5) = 0 ∨ IntKind.i64.wrap ((pk s.2.2 6).tdiv 5) = 1 := by
      have : (pk s.2.2 6).tdiv 5 = 0 ∨ (pk s.2.2 6).tdiv 5 = 1 := by
        rw [Int.tdiv_eq_ediv_of_nonneg d0.1]; omega
      rw [wrap_in (by omega)]; exact this
    have hm : 0 ≤ IntKind.i64.wrap ((pk s.2.2 6).tdiv 5) * pk (nx s.2.2 1) 3 ∧ IntKind.i64.wrap ((pk s.2.2 6).tdiv 5) * pk (nx s.2.2 1) 3 ≤ 2 := by
      rcases hq with hq | hq <;> rw [hq] <;> omega
    refine awp_skip ?_
    refine awp_seq (awp_block ?_)
    all_goals refine awp_seq (awp_region (id := 6) ?_)
    all_goals refine awpOps_cons (op_mv rfl (Conv.of rfl) rfl) ?_
    all_goals refine awpOps_cons (op_add rfl rfl rfl (by omega)) ?_
    all_goals refine awpOps_cons (op_mv rfl (Conv.of rfl) rfl) ?_
    all_goals refine awpOps_cons (op_callO fb54 (.cons rfl (Conv.of rfl) (.cons rfl (Conv.of rfl) (.nil _))) (pick_ct s.2.2 6 (by unfold Far at hf0; omega)) (olsk rfl ols0) (oksk (by exact obOk_cell) oks0) (oksk (by exact obOk_cell) oks0) rfl (argOb rfl rfl rfl (argOk' rfl rfl argO0)) (fun o ho => by cases ho) rfl) ?_
    all_goals refine awpOps_cons (op_quo rfl rfl rfl (by decide)) ?_
    all_goals refine awpOps_cons (op_mv rfl (Conv.of rfl) rfl) ?_
    all_goals refine awpOps_cons (op_callO fb54 (.cons rfl (Conv.of rfl) (.cons rfl (Conv.of rfl) (.nil _))) (pick_ct (nx s.2.2 1) 3 (by unfold Far at hf1; omega)) (olsk rfl ols0) (oksk (by exact obOk_cell) oks0) (oksk (by exact obOk_cell) oks0) rfl (argOb rfl rfl rfl (argOk' rfl rfl argO0)) (fun o ho => by cases ho) rfl) ?_
    all_goals refine awpOps_cons (op_mul rfl rfl rfl (by omega)) ?_
    all_goals refine awpOps_cons (op_add rfl rfl rfl (by omega)) ?_
    all_goals refine awpOps_cons (op_as rfl (Conv.of rfl) rfl) ?_
    all_goals refine awpOps_nil ?_
    refine awp_toB (s' := mkSt 30 [(3, .v (NRef.ref 3)), (0, .box 0 (IsLens.whole Rd)), (4, .v (chIter r (k + 1)).1), (5, .v (pk r 7 - (k : Int)))] [(3, .arr (chIter r (k + 1)).2.1), (0, .cell (chIter r (k + 1)).2.2)]) ?_ ?_
    · all_goals refine awp_region (id := 7) ?_
      all_goals refine awpOps_cons (op_mv rfl (Conv.of rfl) rfl) ?_
      all_goals refine awpOps_cons (op_mv rfl (Conv.of rfl) rfl) ?_
      all_goals refine awpOps_cons (op_mv rfl (Conv.of rfl) rfl) ?_
      all_goals refine awpOps_cons (op_callO fb87 (.cons rfl (Conv.of rfl) (.nil _)) (l71Pay_ct (nx (nx s.2.2 1) 1) (hf2.weak (by omega))) (olsk rfl ols0) (oksk (by exact obOk_cell) oks0) (oksk (by exact obOk_cell) oks0) rfl (argOb rfl rfl rfl argO0) (fun o ho => by cases ho) rfl) ?_
      all_goals refine awpOps_cons (op_build (.cons f60_0 rfl (Conv.of rfl) (.cons f60_1 rfl (Conv.of rfl) (.nil _))) z60 rfl pl60 rfl) ?_
      all_goals refine awpOps_cons (op_bsl sl34 z60 (.cons rfl (Conv.of rfl) (.nil _)) rfl (by decide) rfl) ?_
      all_goals refine awpOps_cons (op_apA (o' := 3) sl34 z60 ul34 rfl rfl rfl rfl (by simp) (by (simp; omega)) (by (simp; omega)) rfl) ?_
      all_goals refine awpOps_cons (op_as rfl (Conv.of rfl) rfl) ?_
      all_goals refine awpOps_nil ?_
      all_goals exact Le.mk rfl (tlb rfl rfl rfl (tlb rfl rfl rfl (tle rfl (by (rw [hst]; rfl)) rfl (tle rfl (rfl) rfl tln)))) (olk (by (rw [hst]; simp only [chStep, nx_nx]; rfl)) (by exact obOk_arr) (olk (by (rw [hst]; simp only [chStep, nx_nx]; rfl)) (by exact obOk_cell) oln)) (hS_sub (a := [(0, .cell r)]) rfl)
    refine awp_le (Le.ren (o := 3) (o' := 2) (t := 3) rfl (hS_sub rfl) rfl rfl rfl (oblk obOk_cell obl0) (fun x _ => Plain.refs_eq x)) ?_
    all_goals refine awp_region (id := 5) ?_
    all_goals refine awpOps_cons (op_mv rfl (Conv.of rfl) rfl) ?_
    all_goals refine awpOps_cons (op_sub rfl rfl rfl (by omega)) ?_
    all_goals refine awpOps_cons (op_as rfl (Conv.of rfl) rfl) ?_
    all_goals refine awpOps_nil ?_
    repeat first | refine nx_seq ?_ | refine nx_block ?_
    exact ⟨n_ - 1, _, by omega, ⟨k + 1, by omega, rfl⟩, Le.mk rfl (tlb rfl rfl rfl (tlb rfl rfl rfl (tle rfl (rfl) rfl (tle rfl (by (show AV.v _ = AV.v _; congr 1; omega)) rfl tln)))) (olk rfl (by exact obOk_arr) (olk rfl (by exact obOk_cell) oln)) (hS_sub (a := [(0, .cell r)]) rfl)⟩
  · refine awp_exit ?_
    repeat refine ex_seq ?_
    refine ex_block ?_
    have hge : pk r 7 - (k : Int) ≤ 0 := by have := of_decide_eq_false h; omega
    have hk' : k = (pk r 7).toNat := by omega
    all_goals refine awp_seq (awp_region (id := 8) ?_)
    all_goals refine awpOps_cons (op_mv rfl (Conv.of rfl) rfl) ?_
    all_goals refine awpOps_cons (op_as rfl (Conv.of rfl) rfl) ?_
    all_goals refine awpOps_nil ?_
    refine awp_ret ?_
    repeat first | refine rt_seq ?_ | refine rt_block ?_
    subst hk'
    exact finO1 [(0, .cell (chainR r)), (2, .arr (chainV r))] (.v rfl (Conv.of rfl)) (fun o ho => (by have h2 : o = 2 := (by simpa using (show o ∈ [2] from ho)); (subst h2; rfl))) (olk rfl obOk_cell (olk rfl obOk_arr oln)) (hS_sub rfl) rfl
set_option maxHeartbeats 4000000 in
theorem off_ct (r : Rd) (hp : Far 700000 r) : CtO Tryz.prog 142 [.box 0 (IsLens.whole Rd)] [(0, .cell r)] (.v (offF r).1) [(0, .cell (offF r).2)] := by
  have hc6 := chainV_len hp (by omega)
  have hf1 := chainR_far hp (by omega)
  have hch := chainA_ct r (hp.weak (by omega))
  unfold offF
  generalize chainV r = c at hc6 hch ⊢
  generalize chainR r = r1 at hf1 hch ⊢
  have hf2 : Far 700032 (nx r1 1) := hf1.nx (by omega) (by omega)
  have hf3 : Far 700033 (nx (nx r1 1) 1) := hf2.nx (by omega) (by omega)
  have e2 : nx (nx r1 1) 1 = nx r1 2 := nx_nx r1 1 1
  have e3 : nx (nx (nx r1 1) 1) 1 = nx r1 3 := by rw [e2]; exact nx_nx r1 2 1
  have b3 := pk_bd hf3 (by omega) 3
  have c3 := b3.2 (by omega)
  have g3 := gi_get (l := [0, 30, 31]) b3.1 (by simp; omega)
  have bc := pk_bd hf2 (by omega) (c.length : Int)
  have hx : 0 < c.length → c[(pk (nx r1 1) (c.length : Int)).toNat]? = some (c.getD (pk (nx r1 1) (c.length : Int)).toNat Itm.zero) := fun h0 => by
    have := bc.2 (by omega)
    rw [List.getD_eq_getElem?_getD, List.getElem?_eq_getElem (show (pk (nx r1 1) (c.length : Int)).toNat < c.length by omega)]; rfl
  refine Ct.intro Tryz.func142 rfl rfl ?_
  all_goals refine awp_seq (awp_region (id := 0) ?_)
  all_goals refine awpOps_cons (op_as rfl (Conv.of rfl) rfl) ?_
  all_goals refine awpOps_nil ?_
  all_goals refine awp_seq (awp_region (id := 1) ?_)
  all_goals refine awpOps_cons (op_mv rfl (Conv.of rfl) rfl) ?_
  refine awpOps_callO [(0, .cell r)] rfl fb170 (.cons rfl (Conv.of rfl) (.nil _)) hch (olsk rfl ols0) (oksk obOk_cell oks0) (argOb rfl rfl rfl argO0) rfl ?_
  rintro r_ h' ⟨rfl, rfl⟩
  refine ⟨[(0, .cell r1), (2, .arr c)], rfl, fun o ho => ?_, fun o ho h1 => ?_, oksk obOk_cell (oksk obOk_arr oks0), fun o ho => ?_, ?_⟩
  · have : o = 0 := by simpa [keys, lk0] using ho
    subst this; rfl
  · by_cases e0 : o = 0
    · subst e0; cases h1
    · have : o = 2 := by simpa [keys, lk0, e0] using ho
      subst this; rfl
  · have : o = 2 := by simpa using (show o ∈ [2] from ho)
    subst this; rfl
  all_goals refine awpOps_cons (op_as rfl (Conv.of rfl) rfl) ?_
  all_goals refine awpOps_nil ?_
  all_goals refine awp_seq (awp_seq (awp_region (id := 2) ?_))
  all_goals refine awpOps_cons (op_mv rfl (Conv.of rfl) rfl) ?_
  all_goals refine awpOps_cons (op_callO fb54 (.cons rfl (Conv.of rfl) (.cons rfl (Conv.of rfl) (.nil _))) (pick_ct r1 16 (by unfold Far at hf1; omega)) (olsk rfl ols0) (oksk (by exact obOk_cell) oks0) (oksk (by exact obOk_cell) oks0) rfl (argOb rfl rfl rfl (argOk' rfl rfl argO0)) (fun o ho => by cases ho) rfl) ?_
  all_goals refine awpOps_nil ?_
  refine awp_to (s' := mkSt 50 [(3, .v (offAt c r1).1), (0, .box 0 (IsLens.whole Rd))] [(0, .cell (offAt c r1).2)]) ?_ ?_
  · refine awp_block ?_
    all_goals refine awp_seq (awp_region (id := 3) ?_)
    all_goals refine awpOps_cons (op_eql rfl rfl rfl) ?_
    all_goals refine awpOps_cons (op_as rfl (Conv.of rfl) rfl) ?_
    all_goals refine awpOps_nil ?_
    refine awp_cond rfl (fun h => ?_) (fun h => ?_)
    · have hk := of_decide_eq_true h
      rw [show offAt c r1 = (c ++ [⟨pk (nx r1 1) 4, (anyPayF (nx (nx r1 1) 1)).1⟩], (anyPayF (nx (nx r1 1) 1)).2) by unfold offAt; rw [if_pos hk, e2]]
      all_goals refine awp_region (id := 4) ?_
      all_goals refine awpOps_cons (op_mv rfl (Conv.of rfl) rfl) ?_
      all_goals refine awpOps_cons (op_mv rfl (Conv.of rfl) rfl) ?_
      all_goals refine awpOps_cons (op_callO fb54 (.cons rfl (Conv.of rfl) (.cons rfl (Conv.of rfl) (.nil _))) (pick_ct (nx r1 1) 4 (by unfold Far at hf2; omega)) (olsk rfl ols0) (oksk (by exact obOk_cell) oks0) (oksk (by exact obOk_cell) oks0) rfl (argOb rfl rfl rfl (argOk' rfl rfl argO0)) (fun o ho => by cases ho) rfl) ?_
      all_goals refine awpOps_cons (op_mv rfl (Conv.of rfl) rfl) ?_
      all_goals refine awpOps_cons (op_callO fb73 (.cons rfl (Conv.of rfl) (.nil _)) (anyPay_ct (nx (nx r1 1) 1) (hf3.weak (by omega))) (olsk rfl ols0) (oksk (by exact obOk_cell) oks0) (oksk (by exact obOk_cell) oks0) rfl (argOb rfl rfl rfl argO0) (fun o ho => by cases ho) rfl) ?_
      all_goals refine awpOps_cons (op_build (.cons f60_0 rfl (Conv.of rfl) (.cons f60_1 rfl (Conv.of rfl) (.nil _))) z60 rfl pl60 rfl) ?_
      all_goals refine awpOps_cons (op_bsl sl34 z60 (.cons rfl (Conv.of rfl) (.nil _)) rfl (by decide) rfl) ?_
      all_goals refine awpOps_cons (op_apA (o' := 3) sl34 z60 ul34 rfl rfl rfl rfl (by simp) (by (simp; omega)) (by (simp; omega)) rfl) ?_
      all_goals refine awpOps_cons (op_as rfl (Conv.of rfl) rfl) ?_
      all_goals refine awpOps_nil ?_
      repeat first | refine nx_seq ?_ | refine nx_block ?_
      exact Le.trans (Le.mk rfl (tlb rfl rfl rfl (tlb rfl rfl rfl tln)) (olk rfl (by exact obOk_arr) (olk rfl (by exact obOk_cell) oln)) (hS_sub (a := [(0, .cell r)]) rfl)) (Le.frz (o := 3) (t := 3) (by show _ ≤ 4611686018427387904; simp; omega) (hS_sub rfl) rfl rfl (oblk obOk_cell obl0))
    · have hk := of_decide_eq_false h
      all_goals refine awp_seq (awp_region (id := 5) ?_)
      all_goals refine awpOps_cons (op_eql rfl rfl rfl) ?_
      all_goals refine awpOps_cons (op_as rfl (Conv.of rfl) rfl) ?_
      all_goals refine awpOps_nil ?_
      refine awp_cond rfl (fun h2 => ?_) (fun h2 => ?_)
      · have hk2 := of_decide_eq_true h2
        all_goals refine awp_seq (awp_region (id := 6) ?_)
        all_goals refine awpOps_cons (op_mv rfl (Conv.of rfl) rfl) ?_
        all_goals refine awpOps_cons (op_lenA sl34 rfl rfl rfl) ?_
        all_goals refine awpOps_cons (op_gtr rfl rfl rfl) ?_
        all_goals refine awpOps_nil ?_
        refine awp_cond rfl (fun h3 => ?_) (fun h3 => ?_)
        · have hpos : 0 < c.length := by have := of_decide_eq_true h3; omega
          have hlt := bc.2 (by omega)
          rw [show offAt c r1 = (c.set (pk (nx r1 1) c.length).toNat { c.getD (pk (nx r1 1) c.length).toNat Itm.zero with epoch := gi [0, 30, 31] (pk (nx (nx r1 1) 1) 3) }, nx (nx (nx r1 1) 1) 1) by unfold offAt; rw [if_neg hk, if_pos hk2, if_pos hpos, e3, e2]]
          all_goals refine awp_region (id := 7) ?_
          all_goals refine awpOps_cons (op_mv rfl (Conv.of rfl) rfl) ?_
          all_goals refine awpOps_cons (op_mv rfl (Conv.of rfl) rfl) ?_
          all_goals refine awpOps_cons (op_mv rfl (Conv.of rfl) rfl) ?_
          all_goals refine awpOps_cons (op_lenA sl34 rfl rfl rfl) ?_
          all_goals refine awpOps_cons (op_callO fb54 (.cons rfl (Conv.of rfl) (.cons rfl (Conv.of rfl) (.nil _))) (pick_ct (nx r1 1) (c.length : Int) (by unfold Far at hf2; omega)) (olsk rfl ols0) (oksk (by exact obOk_cell) oks0) (oksk (by exact obOk_cell) oks0) rfl (argOb rfl rfl rfl (argOk' rfl rfl argO0)) (fun o ho => by cases ho) rfl) ?_
          all_goals refine awpOps_cons (op_bsl sl61 z3 (.cons rfl (Conv.of rfl) (.cons rfl (Conv.of rfl) (.cons rfl (Conv.of rfl) (.nil _)))) rfl (by decide) rfl) ?_
          all_goals refine awpOps_cons (op_mv rfl (Conv.of rfl) rfl) ?_
          all_goals refine awpOps_cons (op_callO fb54 (.cons rfl (Conv.of rfl) (.cons rfl (Conv.of rfl) (.nil _))) (pick_ct (nx (nx r1 1) 1) 3 (by unfold Far at hf3; omega)) (olsk rfl ols0) (oksk (by exact obOk_cell) oks0) (oksk (by exact obOk_cell) oks0) rfl (argOb rfl rfl rfl (argOk' rfl rfl argO0)) (fun o ho => by cases ho) rfl) ?_
          all_goals refine awpOps_cons (op_ix sl61 rfl rfl rfl b3.1 g3) ?_
          all_goals refine awpOps_cons (op_ldr ty3 rfl rfl) ?_
          all_goals refine awpOps_cons (op_ixA sl34 rfl rfl rfl rfl ⟨bc.1, by omega⟩) ?_
          all_goals refine awpOps_cons (op_fae f60_0 rfl rfl) ?_
          all_goals refine awpOps_cons (op_ste ty3 rfl rfl (Conv.of rfl) rfl (hx hpos)) ?_
          all_goals refine awpOps_nil ?_
          repeat first | refine nx_seq ?_ | refine nx_block ?_
          exact Le.trans (Le.mk rfl (tlb rfl rfl rfl (tlb rfl rfl rfl tln)) (olk rfl (by exact obOk_arr) (olk rfl (by exact obOk_cell) oln)) (hS_sub (a := [(0, .cell r)]) rfl)) (Le.frz (o := 2) (t := 3) (by show _ ≤ 4611686018427387904; simp; omega) (hS_sub rfl) rfl rfl (oblk obOk_cell obl0))
        · have hpos : ¬ 0 < c.length := by have := of_decide_eq_false h3; omega
          rw [show offAt c r1 = (c, nx r1 1) by unfold offAt; rw [if_neg hk, if_pos hk2, if_neg hpos]]
          refine awp_skip ?_
          repeat first | refine nx_seq ?_ | refine nx_block ?_
          exact Le.trans (Le.mk rfl (tlb rfl rfl rfl (tlb rfl rfl rfl tln)) (olk rfl (by exact obOk_arr) (olk rfl (by exact obOk_cell) oln)) (hS_sub (a := [(0, .cell r)]) rfl)) (Le.frz (o := 2) (t := 3) (by show _ ≤ 4611686018427387904; omega) (hS_sub rfl) rfl rfl (oblk obOk_cell obl0))
      · have hk2 := of_decide_eq_false h2
        all_goals refine awp_seq (awp_region (id := 8) ?_)
        all_goals refine awpOps_cons (op_eql rfl rfl rfl) ?_
        all_goals refine awpOps_cons (op_as rfl (Conv.of rfl) rfl) ?_
        all_goals refine awpOps_nil ?_
        refine awp_cond rfl (fun h3 => ?_) (fun h3 => ?_)
        · have hk3 := of_decide_eq_true h3
          all_goals refine awp_seq (awp_region (id := 9) ?_)
          all_goals refine awpOps_cons (op_mv rfl (Conv.of rfl) rfl) ?_
          all_goals refine awpOps_cons (op_lenA sl34 rfl rfl rfl) ?_
          all_goals refine awpOps_cons (op_gtr rfl rfl rfl) ?_
          all_goals refine awpOps_nil ?_
          refine awp_cond rfl (fun h4 => ?_) (fun h4 => ?_)
          · have hpos : 0 < c.length := by have := of_decide_eq_true h4; omega
            have hlt := bc.2 (by omega)
            rw [show offAt c r1 = (c.set (pk (nx r1 1) c.length).toNat { c.getD (pk (nx r1 1) c.length).toNat Itm.zero with pay := (anyPayF (nx (nx r1 1) 1)).1 }, (anyPayF (nx (nx r1 1) 1)).2) by unfold offAt; rw [if_neg hk, if_neg hk2, if_pos hk3, if_pos hpos, e2]]
            all_goals refine awp_region (id := 10) ?_
            all_goals refine awpOps_cons (op_mv rfl (Conv.of rfl) rfl) ?_
            all_goals refine awpOps_cons (op_mv rfl (Conv.of rfl) rfl) ?_
            all_goals refine awpOps_cons (op_mv rfl (Conv.of rfl) rfl) ?_
            all_goals refine awpOps_cons (op_lenA sl34 rfl rfl rfl) ?_
            all_goals refine awpOps_cons (op_callO fb54 (.cons rfl (Conv.of rfl) (.cons rfl (Conv.of rfl) (.nil _))) (pick_ct (nx r1 1) (c.length : Int) (by unfold Far at hf2; omega)) (olsk rfl ols0) (oksk (by exact obOk_cell) oks0) (oksk (by exact obOk_cell) oks0) rfl (argOb rfl rfl rfl (argOk' rfl rfl argO0)) (fun o ho => by cases ho) rfl) ?_
            all_goals refine awpOps_cons (op_mv rfl (Conv.of rfl) rfl) ?_
            all_goals refine awpOps_cons (op_callO fb73 (.cons rfl (Conv.of rfl) (.nil _)) (anyPay_ct (nx (nx r1 1) 1) (hf3.weak (by omega))) (olsk rfl ols0) (oksk (by exact obOk_cell) oks0) (oksk (by exact obOk_cell) oks0) rfl (argOb rfl rfl rfl argO0) (fun o ho => by cases ho) rfl) ?_
            all_goals refine awpOps_cons (op_ixA sl34 rfl rfl rfl rfl ⟨bc.1, by omega⟩) ?_
            all_goals refine awpOps_cons (op_fae f60_1 rfl rfl) ?_
            all_goals refine awpOps_cons (op_ste ty58 rfl rfl (Conv.of rfl) rfl (hx hpos)) ?_
            all_goals refine awpOps_nil ?_
            repeat first | refine nx_seq ?_ | refine nx_block ?_
            exact Le.trans (Le.mk rfl (tlb rfl rfl rfl (tlb rfl rfl rfl tln)) (olk rfl (by exact obOk_arr) (olk rfl (by exact obOk_cell) oln)) (hS_sub (a := [(0, .cell r)]) rfl)) (Le.frz (o := 2) (t := 3) (by show _ ≤ 4611686018427387904; simp; omega) (hS_sub rfl) rfl rfl (oblk obOk_cell obl0))
          · have hpos : ¬ 0 < c.length := by have := of_decide_eq_false h4; omega
            rw [show offAt c r1 = (c, nx r1 1) by unfold offAt; rw [if_neg hk, if_neg hk2, if_pos hk3, if_neg hpos]]
            refine awp_skip ?_
            repeat first | refine nx_seq ?_ | refine nx_block ?_
            exact Le.trans (Le.mk rfl (tlb rfl rfl rfl (tlb rfl rfl rfl tln)) (olk rfl (by exact obOk_arr) (olk rfl (by exact obOk_cell) oln)) (hS_sub (a := [(0, .cell r)]) rfl)) (Le.frz (o := 2) (t := 3) (by show _ ≤ 4611686018427387904; omega) (hS_sub rfl) rfl rfl (oblk obOk_cell obl0))
        · have hk3 := of_decide_eq_false h3
          rw [show offAt c r1 = (c, nx r1 1) by unfold offAt; rw [if_neg hk, if_neg hk2, if_neg hk3]]
          refine awp_skip ?_
          repeat first | refine nx_seq ?_ | refine nx_block ?_
          exact Le.trans (Le.mk rfl (tlb rfl rfl rfl (tlb rfl rfl rfl tln)) (olk rfl (by exact obOk_arr) (olk rfl (by exact obOk_cell) oln)) (hS_sub (a := [(0, .cell r)]) rfl)) (Le.frz (o := 2) (t := 3) (by show _ ≤ 4611686018427387904; omega) (hS_sub rfl) rfl rfl (oblk obOk_cell obl0))
  · all_goals refine awp_seq (awp_region (id := 11) ?_)
    all_goals refine awpOps_cons (op_mv rfl (Conv.of rfl) rfl) ?_
    all_goals refine awpOps_cons (op_as rfl (Conv.of rfl) rfl) ?_
    all_goals refine awpOps_nil ?_
    refine awp_ret ?_
    repeat first | refine rt_seq ?_ | refine rt_block ?_
    exact finO1 [(0, .cell (offAt c r1).2)] (.v rfl (Conv.of rfl)) (fun o ho => by cases ho) (olk rfl obOk_cell oln) (hS_keys rfl) rfl
set_option maxHeartbeats 4000000 in
theorem voteD_ct (r : Rd) (hp : Far 600000 r) : CtO Tryz.prog 98 [.box 0 (IsLens.whole Rd)] [(0, .cell r)] (.v (voteDF r).1) [(0, .cell (voteDF r).2)] := by
  have b4 := pk_bd hp (by omega) 4
  have c4 := b4.2 (by omega)
  have hf1 : Far 600001 (nx r 1) := hp.nx (by omega) (by omega)
  have hoc := off_ct (nx r 1) (hf1.weak (by omega))
  have hlen := off_len hf1 (by omega)
  have hf2 := off_far (m' := 600041) hf1 (by omega) (by omega)
  unfold voteDF
  generalize offF (nx r 1) = cr at hoc hlen hf2 ⊢
  obtain ⟨c, r2⟩ := cr
  simp only at hoc hlen hf2 ⊢
  have hcp := voteC_p c r2
  have hf3 : Far 600046 (voteC c r2).2 := by unfold Far at hf2 ⊢; omega
  refine Ct.intro Tryz.func98 rfl rfl ?_
  all_goals refine awp_seq (awp_region (id := 0) ?_)
  all_goals refine awpOps_cons (op_alloc (o := 2) z48 rfl rfl) ?_
  all_goals refine awpOps_nil ?_
  all_goals refine awp_seq (awp_region (id := 1) ?_)
  all_goals refine awpOps_cons (op_mv rfl (Conv.of rfl) rfl) ?_
  all_goals refine awpOps_cons (op_callO fb54 (.cons rfl (Conv.of rfl) (.cons rfl (Conv.of rfl) (.nil _))) (pick_ct r 4 (by unfold Far at hp; omega)) (olsk rfl ols0) (oksk (by exact obOk_cell) oks0) (oksk (by exact obOk_cell) oks0) rfl (argOb rfl rfl rfl (argOk' rfl rfl argO0)) (fun o ho => by cases ho) rfl) ?_
  all_goals refine awpOps_cons (op_add rfl rfl rfl (by omega)) ?_
  all_goals refine awpOps_cons (op_mv rfl (Conv.of rfl) rfl) ?_
  all_goals refine awpOps_cons (op_callO fb142 (.cons rfl (Conv.of rfl) (.nil _)) (hoc) (olsk rfl ols0) (oksk (by exact obOk_cell) oks0) (oksk (by exact obOk_cell) oks0) rfl (argOb rfl rfl rfl argO0) (fun o ho => by cases ho) rfl) ?_
  all_goals refine awpOps_cons (op_build (.cons f48_0 rfl (Conv.of rfl) (.cons f48_1 rfl (Conv.of rfl) (.nil _))) z48 rfl pl48 rfl) ?_
  all_goals refine awpOps_cons (op_alloc (o := 3) z48 rfl rfl) ?_
  all_goals refine awpOps_cons (op_st ty48 rfl rfl (Conv.of rfl) rfl) ?_
  all_goals refine awpOps_nil ?_
  refine awp_seq_to (s' := mkSt 37 [(0, .box 0 (IsLens.whole Rd)), (2, .box 2 (IsLens.whole Vote)), (3, .box 3 (IsLens.whole Vote))] [(0, .cell (voteC c r2).2), (2, .cell Vote.zero), (3, .cell (Vote.mk (1 + pk r 4) (voteC c r2).1))]) ?_ ?_
  · have g2 : Far 600042 (nx r2 1) := hf2.nx (by omega) (by omega)
    have g3 : Far 600043 (nx (nx r2 1) 1) := g2.nx (by omega) (by omega)
    have d3 := pk_bd g2 (by omega) 3
    have f3 := d3.2 (by omega)
    have e2 : nx (nx r2 1) 1 = nx r2 2 := nx_nx r2 1 1
    have e5 : nx (nx (nx r2 1) 1) 3 = nx r2 5 := by rw [e2]; exact nx_nx r2 2 3
    all_goals refine awp_seq (awp_region (id := 2) ?_)
    all_goals refine awpOps_cons (op_fab f48_1 rfl rfl) ?_
    all_goals refine awpOps_cons (op_ld ty34 rfl rfl rfl) ?_
    all_goals refine awpOps_cons (op_len sl34 rfl rfl) ?_
    all_goals refine awpOps_cons (op_eql rfl rfl rfl) ?_
    all_goals refine awpOps_cons (op_mv rfl (Conv.of rfl) rfl) ?_
    all_goals refine g_split (t := 14) rfl (fun h => ?_) (fun h => ?_)
    all_goals first | refine awpOps_cons (g_off rfl rfl rfl rfl rfl) ?_ | refine awpOps_cons (g_on rfl rfl rfl (op_mv rfl (Conv.of rfl) rfl)) ?_
    all_goals first | refine awpOps_cons (g_off rfl rfl rfl rfl rfl) ?_ | refine awpOps_cons (g_on rfl rfl rfl (op_callO fb54 (.cons rfl (Conv.of rfl) (.cons rfl (Conv.of rfl) (.nil _))) (pick_ct r2 4 (by unfold Far at hf2; omega)) (olsk rfl ols0) (oksk (by exact obOk_cell) oks0) (oksk (by exact obOk_cell) oks0) rfl (argOb rfl rfl rfl (argOk' rfl rfl argO0)) (fun o ho => by cases ho) rfl)) ?_
    all_goals first | refine awpOps_cons (g_off rfl rfl rfl rfl rfl) ?_ | refine awpOps_cons (g_on rfl rfl rfl (op_gtr rfl rfl rfl)) ?_
    all_goals refine awpOps_cons (op_pick rfl rfl rfl rfl) ?_
    all_goals refine awpOps_nil ?_
    · have hz : c.length = 0 := by have h' : ((c.length : Nat) : Int) = 0 := of_decide_eq_true h; omega
      refine awp_cond rfl (fun h2 => ?_) (fun h2 => ?_)
      · have hk := of_decide_eq_true h2
        rw [show voteC c r2 = ([⟨1 + pk (nx r2 1) 3, payV (nx (nx r2 1) 1)⟩], nx (nx (nx r2 1) 1) 3) by unfold voteC; rw [if_pos hz, if_pos hk, e5, e2]]
        all_goals refine awp_region (id := 3) ?_
        all_goals refine awpOps_cons (op_mv rfl (Conv.of rfl) rfl) ?_
        all_goals refine awpOps_cons (op_callO fb54 (.cons rfl (Conv.of rfl) (.cons rfl (Conv.of rfl) (.nil _))) (pick_ct (nx r2 1) 3 (by unfold Far at g2; omega)) (olsk rfl ols0) (oksk (by exact obOk_cell) oks0) (oksk (by exact obOk_cell) oks0) rfl (argOb rfl rfl rfl (argOk' rfl rfl argO0)) (fun o ho => by cases ho) rfl) ?_
        all_goals refine awpOps_cons (op_add rfl rfl rfl (by omega)) ?_
        all_goals refine awpOps_cons (op_mv rfl (Conv.of rfl) rfl) ?_
        all_goals refine awpOps_cons (op_callO fb87 (.cons rfl (Conv.of rfl) (.nil _)) (l71Pay_ct (nx (nx r2 1) 1) (g3.weak (by omega))) (olsk rfl ols0) (oksk (by exact obOk_cell) oks0) (oksk (by exact obOk_cell) oks0) rfl (argOb rfl rfl rfl argO0) (fun o ho => by cases ho) rfl) ?_
        all_goals refine awpOps_cons (op_build (.cons f60_0 rfl (Conv.of rfl) (.cons f60_1 rfl (Conv.of rfl) (.nil _))) z60 rfl pl60 rfl) ?_
        all_goals refine awpOps_cons (op_bsl sl34 z60 (.cons rfl (Conv.of rfl) (.nil _)) rfl (by decide) rfl) ?_
        all_goals refine awpOps_cons (op_fab f48_1 rfl rfl) ?_
        all_goals refine awpOps_cons (op_st ty34 rfl rfl (Conv.ol) rfl) ?_
        all_goals refine awpOps_nil ?_
        repeat first | refine nx_seq ?_ | refine nx_block ?_
        exact Le.mk rfl (tlb rfl rfl rfl (tlb rfl rfl rfl (tlb rfl rfl rfl tln))) (olk rfl (by exact obOk_cell) (olk rfl (by exact obOk_cell) (olk rfl (by exact obOk_cell) oln))) (hS_sub (a := [(0, .cell r)]) rfl)
      · have hk := of_decide_eq_false h2
        rw [show voteC c r2 = (c, nx r2 1) by unfold voteC; rw [if_pos hz, if_neg hk]]
        refine awp_skip ?_
        repeat first | refine nx_seq ?_ | refine nx_block ?_
        exact Le.mk rfl (tlb rfl rfl rfl (tlb rfl rfl rfl (tlb rfl rfl rfl tln))) (olk rfl (by exact obOk_cell) (olk rfl (by exact obOk_cell) (olk rfl (by exact obOk_cell) oln))) (hS_sub (a := [(0, .cell r)]) rfl)
    · have hz : ¬ c.length = 0 := by have h' : ¬ ((c.length : Nat) : Int) = 0 := of_decide_eq_false h; omega
      rw [show voteC c r2 = (c, r2) by unfold voteC; rw [if_neg hz]]
      refine awp_cond rfl (fun h2 => absurd h2 (by decide)) (fun h2 => ?_)
      refine awp_skip ?_
      repeat first | refine nx_seq ?_ | refine nx_block ?_
      exact Le.mk rfl (tlb rfl rfl rfl (tlb rfl rfl rfl (tlb rfl rfl rfl tln))) (olk rfl (by exact obOk_cell) (olk rfl (by exact obOk_cell) (olk rfl (by exact obOk_cell) oln))) (hS_sub (a := [(0, .cell r)]) rfl)
  · generalize voteC c r2 = cr at hf3 ⊢
    obtain ⟨c2, r3⟩ := cr
    simp only at hf3 ⊢
    have hf4 : Far 600047 (nx r3 1) := hf3.nx (by omega) (by omega)
    have d2 := pk_bd hf4 (by omega) 2
    have f2 := d2.2 (by omega)
    have g2 := gi_get (l := [0, 5]) d2.1 (by simp; omega)
    have e2 : nx (nx r3 1) 1 = nx r3 2 := nx_nx r3 1 1
    refine awp_seq_to (s' := mkSt 37 [(0, .box 0 (IsLens.whole Rd)), (2, .box 2 (IsLens.whole Vote)), (3, .box 3 (IsLens.whole Vote))] [(0, .cell (voteB (1 + pk r 4) r3).2), (2, .cell Vote.zero), (3, .cell (Vote.mk (voteB (1 + pk r 4) r3).1 c2))]) ?_ ?_
    · all_goals refine awp_seq (awp_region (id := 4) ?_)
      all_goals refine awpOps_cons (op_mv rfl (Conv.of rfl) rfl) ?_
      all_goals refine awpOps_cons (op_callO fb54 (.cons rfl (Conv.of rfl) (.cons rfl (Conv.of rfl) (.nil _))) (pick_ct r3 16 (by unfold Far at hf3; omega)) (olsk rfl ols0) (oksk (by exact obOk_cell) oks0) (oksk (by exact obOk_cell) oks0) rfl (argOb rfl rfl rfl (argOk' rfl rfl argO0)) (fun o ho => by cases ho) rfl) ?_
      all_goals refine awpOps_cons (op_eql rfl rfl rfl) ?_
      all_goals refine awpOps_nil ?_
      refine awp_cond rfl (fun h2 => ?_) (fun h2 => ?_)
      · have hk := of_decide_eq_true h2
        rw [show voteB (1 + pk r 4) r3 = (gi [0, 5] (pk (nx r3 1) 2), nx (nx r3 1) 1) by unfold voteB; rw [if_pos hk, e2]]
        all_goals refine awp_region (id := 5) ?_
        all_goals refine awpOps_cons (op_bsl sl61 z3 (.cons rfl (Conv.of rfl) (.cons rfl (Conv.of rfl) (.nil _))) rfl (by decide) rfl) ?_
        all_goals refine awpOps_cons (op_mv rfl (Conv.of rfl) rfl) ?_
        all_goals refine awpOps_cons (op_callO fb54 (.cons rfl (Conv.of rfl) (.cons rfl (Conv.of rfl) (.nil _))) (pick_ct (nx r3 1) 2 (by unfold Far at hf4; omega)) (olsk rfl ols0) (oksk (by exact obOk_cell) oks0) (oksk (by exact obOk_cell) oks0) rfl (argOb rfl rfl rfl (argOk' rfl rfl argO0)) (fun o ho => by cases ho) rfl) ?_
        all_goals refine awpOps_cons (op_ix sl61 rfl rfl rfl d2.1 g2) ?_
        all_goals refine awpOps_cons (op_ldr ty3 rfl rfl) ?_
        all_goals refine awpOps_cons (op_fab f48_0 rfl rfl) ?_
        all_goals refine awpOps_cons (op_st ty3 rfl rfl (Conv.of rfl) rfl) ?_
        all_goals refine awpOps_nil ?_
        repeat first | refine nx_seq ?_ | refine nx_block ?_
        exact Le.mk rfl (tlb rfl rfl rfl (tlb rfl rfl rfl (tlb rfl rfl rfl tln))) (olk rfl (by exact obOk_cell) (olk rfl (by exact obOk_cell) (olk rfl (by exact obOk_cell) oln))) (hS_sub (a := [(0, .cell r)]) rfl)
      · have hk := of_decide_eq_false h2
        rw [show voteB (1 + pk r 4) r3 = (1 + pk r 4, nx r3 1) by unfold voteB; rw [if_neg hk]]
        refine awp_skip ?_
        repeat first | refine nx_seq ?_ | refine nx_block ?_
        exact Le.mk rfl (tlb rfl rfl rfl (tlb rfl rfl rfl (tlb rfl rfl rfl tln))) (olk rfl (by exact obOk_cell) (olk rfl (by exact obOk_cell) (olk rfl (by exact obOk_cell) oln))) (hS_sub (a := [(0, .cell r)]) rfl)
    · all_goals refine awp_seq (awp_region (id := 6) ?_)
      all_goals refine awpOps_cons (op_ld ty48 rfl rfl rfl) ?_
      all_goals refine awpOps_cons (op_st ty48 rfl rfl (Conv.of rfl) rfl) ?_
      all_goals refine awpOps_nil ?_
      refine awp_ret ?_
      repeat first | refine rt_seq ?_ | refine rt_block ?_
      exact finO1 [(0, .cell (voteB (1 + pk r 4) r3).2)] (.rc ty48 rfl rfl) (fun o ho => by cases ho) (olk rfl obOk_cell oln) (hS_keys rfl) rfl
end Go.Proofs.YtmdhfalfppkpeaaGreat

/- The reference: draws of events in a plain world. -/
set_option linter.unusedVariables false
set_option linter.unusedSimpArgs false
namespace Go.Proofs.YtmdhfalfppkpeaaGreat
open Go Go.Wt
end Go.Proofs.YtmdhfalfppkpeaaGreat

/- The reference: drawn worlds, and what happens in them. -/
set_option linter.unusedVariables false
set_option linter.unusedSimpArgs false
namespace Go.Proofs.YtmdhfalfppkpeaaGreat
open Go Go.Wt
theorem paysA_ct (r : Rd) (hp : Far 600000 r) (most : Int) (hm : 0 ≤ most ∧ most ≤ 10) : Ct Tryz.prog 72 [.box 0 (IsLens.whole Rd), .v most] (obs [(0, .cell r)]) (fun r1 h1 => ∃ (ps : List Pay) (r' : Rd), r1 = .v (NRef.ref 2) ∧ h1 = obs [(0, .cell r'), (2, .arr ps)] ∧ ps.length ≤ 10 ∧ r.p ≤ r'.p ∧ r'.p ≤ r.p + 40) := by
  have b0 := pk_bd hp (by omega) (most + 1)
  have c0 := b0.2 (by omega)
  refine Ct.intro Tryz.func72 rfl rfl ?_
  all_goals refine awp_seq (awp_region (id := 0) ?_)
  all_goals refine awpOps_cons (op_as rfl (Conv.of rfl) rfl) ?_
  all_goals refine awpOps_nil ?_
  all_goals refine awp_seq (awp_region (id := 1) ?_)
  all_goals refine awpOps_cons (op_bsa (o := 2) sl51 z58 (.nil _) rfl (by decide) rfl rfl) ?_
  all_goals refine awpOps_cons (op_as rfl (Conv.nr) rfl) ?_
  all_goals refine awpOps_nil ?_
  all_goals refine awp_seq (awp_seq (awp_region (id := 2) ?_))
  all_goals refine awpOps_cons (op_mv rfl (Conv.of rfl) rfl) ?_
  all_goals refine awpOps_cons (op_mv rfl (Conv.of rfl) rfl) ?_
  all_goals refine awpOps_cons (op_add rfl rfl rfl (by omega)) ?_
  all_goals refine awpOps_cons (op_callO fb54 (.cons rfl (Conv.of rfl) (.cons rfl (Conv.of rfl) (.nil _))) (pick_ct r (most + 1) (by unfold Far at hp; omega)) (olsk rfl ols0) (oksk (by exact obOk_cell) oks0) (oksk (by exact obOk_cell) oks0) rfl (argOb rfl rfl rfl (argOk' rfl rfl argO0)) (fun o ho => by cases ho) rfl) ?_
  all_goals refine awpOps_cons (op_as rfl (Conv.of rfl) rfl) ?_
  all_goals refine awpOps_nil ?_
  refine awp_block ?_
  refine awp_loop' (fun n_ s => ∃ (k : Nat), ∃ (ps : List Pay), ∃ (r1 : Rd), ∃ (hk : n_ + k = (pk r (most + 1)).toNat), ∃ (hl : ps.length = k), ∃ (hr : r.p ≤ r1.p ∧ r1.p ≤ r.p + 1 + 3 * (k : Int)), s = mkSt 22 [(5, .v (NRef.ref 2)), (0, .box 0 (IsLens.whole Rd)), (6, .v (pk r (most + 1) - (k : Int)))] [(2, .arr ps), (0, .cell r1)]) ((pk r (most + 1)).toNat) ⟨0, [], nx r 1, by omega, rfl, (by simp only [nx]; omega), rfl⟩ (Le.mk rfl (tlb rfl rfl rfl (tlb rfl rfl rfl (tle rfl (by (show AV.v _ = AV.v _; congr 1; omega)) rfl tln))) (olk rfl (by exact obOk_arr) (olk rfl (by exact obOk_cell) oln)) (hS_sub (a := [(0, .cell r)]) rfl)) ?_
  rintro n_ s ⟨k, ps, r1, hk, hl, hr, rfl⟩
  all_goals refine awp_seq (awp_seq (awp_region (id := 3) ?_))
  all_goals refine awpOps_cons (op_mv rfl (Conv.of rfl) rfl) ?_
  all_goals refine awpOps_cons (op_gtr rfl rfl rfl) ?_
  all_goals refine awpOps_nil ?_
  refine awp_cond rfl (fun h => ?_) (fun h => ?_)
  · have hlt : (k : Int) < pk r (most + 1) := by have := of_decide_eq_true h; omega
    have hf1 : Far 600100 r1 := by unfold Far at hp ⊢; omega
    refine awp_skip ?_
    refine awp_seq (awp_block ?_)
    refine awp_toB (s' := mkSt 22 [(5, .v (NRef.ref 3)), (0, .box 0 (IsLens.whole Rd)), (6, .v (pk r (most + 1) - (k : Int)))] [(3, .arr (ps ++ [payV r1])), (0, .cell (nx r1 3))]) ?_ ?_
    · all_goals refine awp_region (id := 5) ?_
      all_goals refine awpOps_cons (op_mv rfl (Conv.of rfl) rfl) ?_
      all_goals refine awpOps_cons (op_mv rfl (Conv.of rfl) rfl) ?_
      all_goals refine awpOps_cons (op_callO fb87 (.cons rfl (Conv.of rfl) (.nil _)) (l71Pay_ct r1 (hf1.weak (by omega))) (olsk rfl ols0) (oksk (by exact obOk_cell) oks0) (oksk (by exact obOk_cell) oks0) rfl (argOb rfl rfl rfl argO0) (fun o ho => by cases ho) rfl) ?_
      all_goals refine awpOps_cons (op_bsl sl51 z58 (.cons rfl (Conv.of rfl) (.nil _)) rfl (by decide) rfl) ?_
      all_goals refine awpOps_cons (op_apA (o' := 3) sl51 z58 ul51 rfl rfl rfl rfl (by simp) (by (simp; omega)) (by (simp; omega)) rfl) ?_
      all_goals refine awpOps_cons (op_as rfl (Conv.of rfl) rfl) ?_
      all_goals refine awpOps_nil ?_
      all_goals exact Le.mk rfl (tlb rfl rfl rfl (tlb rfl rfl rfl (tle rfl (rfl) rfl tln))) (olk rfl (by exact obOk_arr) (olk rfl (by exact obOk_cell) oln)) (hS_sub (a := [(0, .cell r)]) rfl)
    refine awp_le (Le.ren (o := 3) (o' := 2) (t := 5) rfl (hS_sub rfl) rfl rfl rfl (oblk obOk_cell obl0) (fun x _ => Plain.refs_eq x)) ?_
    all_goals refine awp_region (id := 4) ?_
    all_goals refine awpOps_cons (op_mv rfl (Conv.of rfl) rfl) ?_
    all_goals refine awpOps_cons (op_sub rfl rfl rfl (by omega)) ?_
    all_goals refine awpOps_cons (op_as rfl (Conv.of rfl) rfl) ?_
    all_goals refine awpOps_nil ?_
    repeat first | refine nx_seq ?_ | refine nx_block ?_
    exact ⟨n_ - 1, _, by omega, ⟨k + 1, ps ++ [payV r1], nx r1 3, by omega, by simp; omega, (by simp only [nx]; omega), rfl⟩, Le.mk rfl (tlb rfl rfl rfl (tlb rfl rfl rfl (tle rfl (by (show AV.v _ = AV.v _; congr 1; omega)) rfl tln))) (olk rfl (by exact obOk_arr) (olk rfl (by exact obOk_cell) oln)) (hS_sub (a := [(0, .cell r)]) rfl)⟩
  · refine awp_exit ?_
    repeat refine ex_seq ?_
    refine ex_block ?_
    all_goals refine awp_seq (awp_region (id := 6) ?_)
    all_goals refine awpOps_cons (op_mv rfl (Conv.of rfl) rfl) ?_
    all_goals refine awpOps_cons (op_as rfl (Conv.of rfl) rfl) ?_
    all_goals refine awpOps_nil ?_
    refine awp_ret ?_
    repeat first | refine rt_seq ?_ | refine rt_block ?_
    refine ⟨_, _, res1 (ol := [(0, .cell r1), (2, .arr ps)]) (.v rfl (Conv.of rfl)) (fun o ho => (by have h2 : o = 2 := (by simpa using (show o ∈ [2] from ho)); (subst h2; rfl))) (olk rfl obOk_cell (olk rfl obOk_arr oln)) (hS_sub rfl), ps, r1, rfl, rfl, by omega, hr.1, by omega⟩
set_option maxHeartbeats 4000000 in
theorem l72World_ct (r : Rd) (hp : Far 1000 r) : Ct Tryz.prog 71 [.box 0 (IsLens.whole Rd)] (obs [(0, .cell r)]) (fun r1 h1 => ∃ (w : Wrld) (r' : Rd), r1 = .v w ∧ h1 = obs [(0, .cell r')] ∧ (w.nodes.length = 4 → Lw w) ∧ Far 21000 r') := by
  refine Ct.intro Tryz.func71 rfl rfl ?_
  all_goals refine awp_seq (awp_region (id := 0) ?_)
  all_goals refine awpOps_cons (op_alloc (o := 5) z29 rfl rfl) ?_
  all_goals refine awpOps_nil ?_
  all_goals refine awp_seq (awp_region (id := 1) ?_)
  all_goals refine awpOps_cons (op_mv rfl (Conv.of rfl) rfl) ?_
  refine awpOps_callO [(0, .cell r)] rfl fb53 (.cons rfl (Conv.of rfl) (.nil _)) (l72Play_ct r hp) (olsk rfl ols0) (oksk obOk_cell oks0) (argOb rfl rfl rfl argO0) rfl ?_
  rintro r_ h' ⟨bad, evs, w, r1, rfl, rfl, he, hb, hw, hf⟩
  refine ⟨ro r1 w, rfl, fun o ho => ?_, fun o ho h1 => ?_, oksk obOk_cell (oksk obOkNs oks0), fun o ho => ?_, ?_⟩
  · have : o = 0 := by simpa [keys, lk0] using ho
    subst this; rfl
  · by_cases e0 : o = 0
    · subst e0; cases h1
    · have : o = 1 := by simpa [keys, lk0, e0] using ho
      subst this; rfl
  · have : o = 1 := by simpa using (show o ∈ [1] from ho)
    subst this; rfl
  have hlw := hw.lw
  have h4 := hw.four
  have hll := hw.ll
  have hf1 : Far 20001 (nx r1 1) := hf.nx (by omega) (by omega)
  all_goals refine awpOps_cons (op_mvo rfl rfl rfl rfl) ?_
  all_goals refine awpOps_cons (op_ext rfl rfl rfl) ?_
  all_goals refine awpOps_cons (op_extm rfl rfl rfl rfl) ?_
  all_goals refine awpOps_cons (op_extm rfl rfl rfl rfl) ?_
  all_goals refine awpOps_cons (op_alloc (o := 6) z29_WrldS rfl rfl) ?_
  all_goals refine awpOps_cons (op_as rfl (Conv.of rfl) rfl) ?_
  all_goals refine awpOps_cons (op_asl rfl rfl rfl rfl) ?_
  all_goals refine awpOps_cons (op_stm ty29_WrldS rfl rfl rfl) ?_
  all_goals refine awpOps_nil ?_
  all_goals refine awp_seq (awp_seq (awp_region (id := 2) ?_))
  all_goals refine awpOps_cons (op_mv rfl (Conv.of rfl) rfl) ?_
  all_goals refine awpOps_cons (op_callO fb54 (.cons rfl (Conv.of rfl) (.cons rfl (Conv.of rfl) (.nil _))) (pick_ct r1 40 (by unfold Far at hf; omega)) (olsk rfl ols0) (oksk (by exact obOk_cell) oks0) (oksk (by exact obOk_cell) oks0) rfl (argOb rfl rfl rfl (argOk' rfl rfl argO0)) (fun o ho => by cases ho) rfl) ?_
  all_goals refine awpOps_nil ?_
  generalize pk r1 40 = q
  refine nx_seq (awp_to_ex (ι := Wrld × Rd) (fun i => mkSt 61 [(5, .box 6 (IsLens.whole Wrld)), (2, .box 5 (IsLens.whole Wrld))] [(6, .cell i.1), (0, .cell i.2), (5, .cell Wrld.zero)]) (fun i => (i.1.nodes.length = 4 → Lw i.1) ∧ Far 21000 i.2) ?_ ?_)
  · by_cases hq3 : q = 3
    · subst hq3
      have hx : w.nodes[0]? = some (w.nodes[0]'(by omega)) := List.getElem?_eq_getElem (by omega)
      generalize w.nodes[0]'(by omega) = n at hx
      have hx' : (w.nodes.map sN)[(0 : Int).toNat]? = some (sN n) := by rw [List.getElem?_map]; show (w.nodes[0]?).map sN = _; rw [hx]; rfl
      have hy : ∀ y : NodS, ((w.nodes.map sN).set (0 : Int).toNat y)[(0 : Int).toNat]? = some y := fun y => by
        rw [List.getElem?_set_self (by rw [List.length_map]; show 0 < _; omega)]
      have hv := voteD_p hf1 (by omega)
      have hvf := voteD_far (m' := 20061) hf1 (by omega) (by omega)
      have hns := hlw.sl n (List.mem_of_getElem? hx)
      have hnf := hw.fine.sl n (List.mem_of_getElem? hx)
      refine awp_block ?_
      all_goals refine awp_seq (awp_region (id := 3) ?_)
      all_goals refine awpOps_cons (op_eql rfl rfl rfl) ?_
      all_goals refine awpOps_cons (op_as rfl (Conv.of rfl) rfl) ?_
      all_goals refine awpOps_nil ?_
      refine awp_cond rfl (fun h => absurd h (by decide)) (fun h => ?_)
      all_goals refine awp_seq (awp_region (id := 5) ?_)
      all_goals refine awpOps_cons (op_eql rfl rfl rfl) ?_
      all_goals refine awpOps_cons (op_as rfl (Conv.of rfl) rfl) ?_
      all_goals refine awpOps_nil ?_
      refine awp_cond rfl (fun h => absurd h (by decide)) (fun h => ?_)
      all_goals refine awp_seq (awp_region (id := 7) ?_)
      all_goals refine awpOps_cons (op_eql rfl rfl rfl) ?_
      all_goals refine awpOps_cons (op_as rfl (Conv.of rfl) rfl) ?_
      all_goals refine awpOps_nil ?_
      refine awp_cond rfl (fun h => absurd h (by decide)) (fun h => ?_)
      all_goals refine awp_seq (awp_region (id := 9) ?_)
      all_goals refine awpOps_cons (op_eql rfl rfl rfl) ?_
      all_goals refine awpOps_cons (op_as rfl (Conv.of rfl) rfl) ?_
      all_goals refine awpOps_nil ?_
      refine awp_cond rfl (fun h => ?_) (fun h => absurd h (by decide))
      all_goals refine dr_start (id := 10) ?_
      all_goals refine dr_cons (op_fab f29_1_WrldS rfl rfl) ?_
      all_goals refine dr_cons (op_ld ty26_NRef rfl rfl rfl) ?_
      all_goals refine dr_cons (op_fab f29_1_WrldS rfl rfl) ?_
      all_goals refine dr_cons (op_ld ty26_NRef rfl rfl rfl) ?_
      all_goals refine dr_cons (op_ixA sl26_NodS rfl rfl rfl rfl ⟨by omega, by simp; omega⟩) ?_
      all_goals refine dr_cons (op_fae f41_3_NodS rfl rfl) ?_
      all_goals refine dr_cons (op_ldme ty27_OListVote rfl rfl hx' rfl) ?_
      all_goals refine dr_cons (op_mv rfl (Conv.of rfl) rfl) ?_
      all_goals refine dr_cons (op_callO fb98 (.cons rfl (Conv.of rfl) (.nil _)) (voteD_ct (nx r1 1) (hf1.weak (by omega))) (olsk rfl ols0) (oksk (by exact obOk_cell) oks0) (oksk (by exact obOk_cell) oks0) rfl (argOb rfl rfl rfl argO0) (fun o ho => by cases ho) rfl) ?_
      all_goals refine dr_cons (op_bsl sl27 z48 (.cons rfl (Conv.of rfl) (.nil _)) rfl (by decide) rfl) ?_
      all_goals refine dr_cons (op_app sl27 z48 ul27 rfl rfl rfl (by (simp [sN]; omega)) (by (simp [sN]; omega)) rfl rfl) ?_
      all_goals refine dr_cons (op_ixA sl26_NodS rfl rfl rfl rfl ⟨by omega, by simp; omega⟩) ?_
      all_goals refine dr_cons (op_fae f41_3_NodS rfl rfl) ?_
      all_goals refine dr_cons (op_stme ty27_OListVote rfl rfl rfl (hy _)) ?_
      all_goals refine dr_nil mixed rfl ?_
      repeat first | refine nx_seq ?_ | refine nx_block ?_
      refine ⟨({ w with nodes := w.nodes.set 0 { n with seen := n.seen ++ [(voteDF (nx r1 1)).1] } }, (voteDF (nx r1 1)).2), ⟨fun _ => ?_, hvf.weak (by omega)⟩, ?_⟩
      · refine ⟨hlw.ep, by simp [h4], hlw.ll, hlw.lc, fun m hm => ?_⟩
        rcases List.mem_or_eq_of_mem_set hm with hm | hm
        · exact hlw.sl m hm
        · subst hm
          refine ⟨by simp; omega, fun u hu => ?_⟩
          rcases List.mem_append.1 hu with hu | hu
          · exact hns.2 u hu
          · simp at hu; subst hu; omega
      · exact Le.trans (Le.mk rfl (tlb rfl rfl rfl (tlb rfl rfl rfl tln)) (olk rfl (by exact obOkS rfl) (olk (by (exact congrArg Wt.Obj.arr (set_sN w.nodes 0 { n with seen := n.seen ++ [(voteDF (nx r1 1)).1] } _))) (by exact obOkNs) (olk rfl (by exact obOk_cell) (olk rfl (by exact obOk_cell) oln)))) (hS_sub (a := [(0, .cell r)]) rfl)) (Le.frzW (t := 5) (c := 6) (o := 1) (w0 := { w with nodes := w.nodes.set 0 { n with seen := n.seen ++ [(voteDF (nx r1 1)).1] } }) (own := true) (by show _ ≤ 4611686018427387904; simp; omega) rfl (hS_sub rfl) rfl rfl rfl (oblk obOk_cell (oblk obOk_cell obl0)))
    by_cases hq2 : q = 2
    · subst hq2
      have hv := voteD_p hf1 (by omega)
      have hvf := voteD_far (m' := 20061) hf1 (by omega) (by omega)
      refine awp_block ?_
      all_goals refine awp_seq (awp_region (id := 3) ?_)
      all_goals refine awpOps_cons (op_eql rfl rfl rfl) ?_
      all_goals refine awpOps_cons (op_as rfl (Conv.of rfl) rfl) ?_
      all_goals refine awpOps_nil ?_
      refine awp_cond rfl (fun h => absurd h (by decide)) (fun h => ?_)
      all_goals refine awp_seq (awp_region (id := 5) ?_)
      all_goals refine awpOps_cons (op_eql rfl rfl rfl) ?_
      all_goals refine awpOps_cons (op_as rfl (Conv.of rfl) rfl) ?_
      all_goals refine awpOps_nil ?_
      refine awp_cond rfl (fun h => absurd h (by decide)) (fun h => ?_)
      all_goals refine awp_seq (awp_region (id := 7) ?_)
      all_goals refine awpOps_cons (op_eql rfl rfl rfl) ?_
      all_goals refine awpOps_cons (op_as rfl (Conv.of rfl) rfl) ?_
      all_goals refine awpOps_nil ?_
      refine awp_cond rfl (fun h => ?_) (fun h => absurd h (by decide))
      all_goals refine dr_start (id := 8) ?_
      all_goals refine dr_cons (op_fab f29_2_WrldS rfl rfl) ?_
      all_goals refine dr_cons (op_ldm ty27_OListVote rfl rfl rfl) ?_
      all_goals refine dr_cons (op_mv rfl (Conv.of rfl) rfl) ?_
      all_goals refine dr_cons (op_callO fb98 (.cons rfl (Conv.of rfl) (.nil _)) (voteD_ct (nx r1 1) (hf1.weak (by omega))) (olsk rfl ols0) (oksk (by exact obOk_cell) oks0) (oksk (by exact obOk_cell) oks0) rfl (argOb rfl rfl rfl argO0) (fun o ho => by cases ho) rfl) ?_
      all_goals refine dr_cons (op_bsl sl27 z48 (.cons rfl (Conv.of rfl) (.nil _)) rfl (by decide) rfl) ?_
      all_goals refine dr_cons (op_app sl27 z48 ul27 rfl rfl rfl (by (simp [sW]; omega)) (by (simp [sW]; omega)) rfl rfl) ?_
      all_goals refine dr_cons (op_fab f29_2_WrldS rfl rfl) ?_
      all_goals refine dr_cons (op_stm ty27_OListVote rfl rfl rfl) ?_
      all_goals refine dr_nil mixed rfl ?_
      repeat first | refine nx_seq ?_ | refine nx_block ?_
      refine ⟨({ w with log := w.log ++ [(voteDF (nx r1 1)).1] }, (voteDF (nx r1 1)).2), ⟨fun _ => ?_, hvf.weak (by omega)⟩, ?_⟩
      · refine ⟨hlw.ep, h4, by simp; omega, fun u hu => ?_, hlw.sl⟩
        rcases List.mem_append.1 hu with hu | hu
        · exact hlw.lc u hu
        · simp at hu; subst hu; omega
      · exact Le.trans (Le.mk rfl (tlb rfl rfl rfl (tlb rfl rfl rfl tln)) (olk rfl (by exact obOkS rfl) (olk rfl (by exact obOkNs) (olk rfl (by exact obOk_cell) (olk rfl (by exact obOk_cell) oln)))) (hS_sub (a := [(0, .cell r)]) rfl)) (Le.frzW (t := 5) (c := 6) (o := 1) (w0 := { w with log := w.log ++ [(voteDF (nx r1 1)).1] }) (own := true) (by show _ ≤ 4611686018427387904; simp; omega) rfl (hS_sub rfl) rfl rfl rfl (oblk obOk_cell (oblk obOk_cell obl0)))
    · refine awp_le (Le.trans (b := mkSt 61 [(5, .box 6 (IsLens.whole WrldS)), (2, .box 5 (IsLens.whole Wrld)), (0, .box 0 (IsLens.whole Rd)), (13, .v q)] [(6, .cell (WrldS.mk w.epoch (.ref 1) ⟨w.log, true⟩ w.bad)), (1, .arr (w.nodes.map sN)), (0, .cell (nx r1 1)), (5, .cell Wrld.zero)]) (Le.mk rfl (tlb rfl rfl rfl (tlb rfl rfl rfl (tlb rfl rfl rfl (tle rfl (rfl) rfl tln)))) (olk rfl (by exact obOkS rfl) (olk rfl (by exact obOkNs) (olk rfl (by exact obOk_cell) (olk rfl (by exact obOk_cell) oln)))) (hS_sub (a := [(0, .cell r)]) rfl)) (Le.frzW (t := 5) (c := 6) (o := 1) (w0 := w) (own := true) (by show _ ≤ 4611686018427387904; omega) rfl (hS_sub rfl) rfl rfl rfl (oblk obOk_cell (oblk obOk_cell obl0)))) ?_
      have d3 := pk_bd hf1 (by omega) 3
      have f3 := d3.2 (by omega)
      have g3 := gi_get (l := [-1, 31, 0]) d3.1 (by simp; omega)
      have d2 := pk_bd hf1 (by omega) 2
      have f2 := d2.2 (by omega)
      have g2 := gi_get (l := [-1, 5]) d2.1 (by simp; omega)
      have hf2 : Far 20002 (nx (nx r1 1) 1) := hf1.nx (by omega) (by omega)
      refine awp_block ?_
      all_goals refine awp_seq (awp_region (id := 3) ?_)
      all_goals refine awpOps_cons (op_eql rfl rfl rfl) ?_
      all_goals refine awpOps_cons (op_as rfl (Conv.of rfl) rfl) ?_
      all_goals refine awpOps_nil ?_
      refine awp_cond rfl (fun h => ?_) (fun h => ?_)
      · all_goals refine awp_region (id := 4) ?_
        all_goals refine awpOps_cons (op_bsl sl61 z3 (.cons rfl (Conv.of rfl) (.cons rfl (Conv.of rfl) (.cons rfl (Conv.of rfl) (.nil _)))) rfl (by decide) rfl) ?_
        all_goals refine awpOps_cons (op_mv rfl (Conv.of rfl) rfl) ?_
        all_goals refine awpOps_cons (op_callO fb54 (.cons rfl (Conv.of rfl) (.cons rfl (Conv.of rfl) (.nil _))) (pick_ct (nx r1 1) 3 (by unfold Far at hf1; omega)) (olsk rfl ols0) (oksk (by exact obOk_cell) oks0) (oksk (by exact obOk_cell) oks0) rfl (argOb rfl rfl rfl (argOk' rfl rfl argO0)) (fun o ho => by cases ho) rfl) ?_
        all_goals refine awpOps_cons (op_ix sl61 rfl rfl rfl d3.1 g3) ?_
        all_goals refine awpOps_cons (op_ldr ty3 rfl rfl) ?_
        all_goals refine awpOps_cons (op_fab f29_0_Wrld rfl rfl) ?_
        all_goals refine awpOps_cons (op_st ty3 rfl rfl (Conv.of rfl) rfl) ?_
        all_goals refine awpOps_nil ?_
        repeat first | refine nx_seq ?_ | refine nx_block ?_
        refine ⟨({ w with epoch := gi [-1, 31, 0] (pk (nx r1 1) 3) }, nx (nx r1 1) 1), ⟨fun _ => ⟨?_, h4, hlw.ll, hlw.lc, hlw.sl⟩, hf2.weak (by omega)⟩, Le.mk rfl (tlb rfl rfl rfl (tlb rfl rfl rfl tln)) (olk rfl (by exact obOk_cell) (olk rfl (by exact obOk_cell) (olk rfl (by exact obOk_cell) oln))) (hS_sub (a := [(0, .cell r)]) rfl)⟩
        have := List.mem_of_getElem? g3
        simp at this
        show -100 ≤ gi [-1, 31, 0] (pk (nx r1 1) 3) ∧ gi [-1, 31, 0] (pk (nx r1 1) 3) ≤ 100
        omega
      · all_goals refine awp_seq (awp_region (id := 5) ?_)
        all_goals refine awpOps_cons (op_eql rfl rfl rfl) ?_
        all_goals refine awpOps_cons (op_as rfl (Conv.of rfl) rfl) ?_
        all_goals refine awpOps_nil ?_
        refine awp_cond rfl (fun h2 => ?_) (fun h2 => ?_)
        · all_goals refine awp_region (id := 6) ?_
          all_goals refine awpOps_cons (op_fab f29_1_Wrld rfl rfl) ?_
          all_goals refine awpOps_cons (op_ld ty26_ListNod rfl rfl rfl) ?_
          all_goals refine awpOps_cons (op_sll sl26 rfl rfl rfl ⟨by omega, by (try simp); omega⟩) ?_
          all_goals refine awpOps_cons (op_fab f29_1_Wrld rfl rfl) ?_
          all_goals refine awpOps_cons (op_st ty26_ListNod rfl rfl (Conv.of rfl) rfl) ?_
          all_goals refine awpOps_nil ?_
          repeat first | refine nx_seq ?_ | refine nx_block ?_
          refine ⟨({ w with nodes := w.nodes.drop 1 }, nx r1 1), ⟨fun h9 => absurd h9 (by simp; omega), hf1.weak (by omega)⟩, Le.mk rfl (tlb rfl rfl rfl (tlb rfl rfl rfl tln)) (olk (by rfl) (by exact obOk_cell) (olk rfl (by exact obOk_cell) (olk rfl (by exact obOk_cell) oln))) (hS_sub (a := [(0, .cell r)]) rfl)⟩
        · all_goals refine awp_seq (awp_region (id := 7) ?_)
          all_goals refine awpOps_cons (op_eql rfl rfl rfl) ?_
          all_goals refine awpOps_cons (op_as rfl (Conv.of rfl) rfl) ?_
          all_goals refine awpOps_nil ?_
          refine awp_cond rfl (fun h3 => absurd (of_decide_eq_true h3) hq2) (fun h3 => ?_)
          all_goals refine awp_seq (awp_region (id := 9) ?_)
          all_goals refine awpOps_cons (op_eql rfl rfl rfl) ?_
          all_goals refine awpOps_cons (op_as rfl (Conv.of rfl) rfl) ?_
          all_goals refine awpOps_nil ?_
          refine awp_cond rfl (fun h3 => absurd (of_decide_eq_true h3) hq3) (fun h3 => ?_)
          all_goals refine awp_seq (awp_region (id := 11) ?_)
          all_goals refine awpOps_cons (op_eql rfl rfl rfl) ?_
          all_goals refine awpOps_cons (op_as rfl (Conv.of rfl) rfl) ?_
          all_goals refine awpOps_nil ?_
          refine awp_cond rfl (fun h4 => ?_) (fun h4 => ?_)
          · all_goals refine awp_region (id := 12) ?_
            all_goals refine awpOps_cons (op_bsl sl61 z3 (.cons rfl (Conv.of rfl) (.cons rfl (Conv.of rfl) (.nil _))) rfl (by decide) rfl) ?_
            all_goals refine awpOps_cons (op_mv rfl (Conv.of rfl) rfl) ?_
            all_goals refine awpOps_cons (op_callO fb54 (.cons rfl (Conv.of rfl) (.cons rfl (Conv.of rfl) (.nil _))) (pick_ct (nx r1 1) 2 (by unfold Far at hf1; omega)) (olsk rfl ols0) (oksk (by exact obOk_cell) oks0) (oksk (by exact obOk_cell) oks0) rfl (argOb rfl rfl rfl (argOk' rfl rfl argO0)) (fun o ho => by cases ho) rfl) ?_
            all_goals refine awpOps_cons (op_ix sl61 rfl rfl rfl d2.1 g2) ?_
            all_goals refine awpOps_cons (op_ldr ty3 rfl rfl) ?_
            all_goals refine awpOps_cons (op_fab f29_3_Wrld rfl rfl) ?_
            all_goals refine awpOps_cons (op_st ty3 rfl rfl (Conv.of rfl) rfl) ?_
            all_goals refine awpOps_nil ?_
            repeat first | refine nx_seq ?_ | refine nx_block ?_
            refine ⟨({ w with bad := gi [-1, 5] (pk (nx r1 1) 2) }, nx (nx r1 1) 1), ⟨fun _ => ⟨hlw.ep, hlw.four, hlw.ll, hlw.lc, hlw.sl⟩, hf2.weak (by omega)⟩, Le.mk rfl (tlb rfl rfl rfl (tlb rfl rfl rfl tln)) (olk rfl (by exact obOk_cell) (olk rfl (by exact obOk_cell) (olk rfl (by exact obOk_cell) oln))) (hS_sub (a := [(0, .cell r)]) rfl)⟩
          · refine awp_skip ?_
            repeat first | refine nx_seq ?_ | refine nx_block ?_
            refine ⟨(w, nx r1 1), ⟨fun _ => hlw, hf1.weak (by omega)⟩, Le.mk rfl (tlb rfl rfl rfl (tlb rfl rfl rfl tln)) (olk rfl (by exact obOk_cell) (olk rfl (by exact obOk_cell) (olk rfl (by exact obOk_cell) oln))) (hS_sub (a := [(0, .cell r)]) rfl)⟩
  · rintro ⟨w2, r2⟩ ⟨hl2, hf2⟩
    simp only at hl2 hf2 ⊢
    all_goals refine awp_seq (awp_region (id := 13) ?_)
    all_goals refine awpOps_cons (op_ld ty29_Wrld rfl rfl rfl) ?_
    all_goals refine awpOps_cons (op_st ty29_Wrld rfl rfl (Conv.of rfl) rfl) ?_
    all_goals refine awpOps_nil ?_
    refine awp_ret ?_
    repeat first | refine rt_seq ?_ | refine rt_block ?_
    exact ⟨_, _, res1 (ol := [(0, .cell r2)]) (.rc ty29_Wrld rfl rfl) (fun o ho => by cases ho) (olk rfl obOk_cell oln) (hS_keys rfl), w2, r2, rfl, rfl, hl2, hf2⟩
end Go.Proofs.YtmdhfalfppkpeaaGreat

/- The reference: a drawn world and an event; a drawn world and payments. -/
set_option linter.unusedVariables false
set_option linter.unusedSimpArgs false
namespace Go.Proofs.YtmdhfalfppkpeaaGreat
open Go Go.Wt
set_option maxHeartbeats 4000000 in
theorem drawCalm_ct (code : List UInt8) : Ct Tryz.prog 26 [.v code] noObj (fun r1 h1 => ∃ (w : Wrld) (ps : List Pay), r1 = .tup [.v w, .v ps] ∧ h1 = noObj ∧ ps.length ≤ 10) := by
  refine Ct.intro Tryz.func26 rfl rfl ?_
  all_goals refine awp_seq (awp_region (id := 0) ?_)
  all_goals refine awpOps_cons (op_alloc (o := 5) z29 rfl rfl) ?_
  all_goals refine awpOps_cons (op_as rfl (Conv.of rfl) rfl) ?_
  all_goals refine awpOps_nil ?_
  all_goals refine awp_seq (awp_region (id := 1) ?_)
  all_goals refine awpOps_cons (op_mv rfl (Conv.of rfl) rfl) ?_
  refine awpOps_callO [] rfl fb52 (.cons rfl (Conv.of rfl) (.nil _)) (l6Open_ct code) ols0 oks0 (argOk' rfl rfl argO0) rfl ?_
  rintro r_ h' ⟨rfl, rfl⟩
  refine ⟨[(0, .cell (Rd.mk (code.take 2000) 0))], rfl, (fun o ho => by cases ho), fun o ho _ => ?_, oksk obOk_cell oks0, fun o ho => ?_, ?_⟩
  · have : o = 0 := by simpa [keys, lk0] using ho
    subst this; rfl
  · have : o = 0 := by simpa using (show o ∈ [0] from ho)
    subst this; rfl
  have hf0 : Far 1000 (Rd.mk (code.take 2000) 0) := ⟨by simp, by simp⟩
  generalize Rd.mk (code.take 2000) 0 = r0 at hf0 ⊢
  all_goals refine awpOps_cons (op_as rfl (Conv.of rfl) rfl) ?_
  all_goals refine awpOps_nil ?_
  all_goals refine awp_seq (awp_region (id := 2) ?_)
  all_goals refine awpOps_cons (op_mv rfl (Conv.of rfl) rfl) ?_
  refine awpOps_callE (ι := Wrld × Rd) [(0, .cell r0)] (fun i => .v i.1) (fun i => [(0, .cell i.2)]) (fun i => (i.1.nodes.length = 4 → Lw i.1) ∧ Far 21000 i.2) rfl fb71 (.cons rfl (Conv.of rfl) (.nil _)) (l72World_ct r0 hf0) (fun r h' ⟨w, r', e1, e2, e3, e4⟩ => ⟨(w, r'), e1, e2, e3, e4⟩) (olsk rfl ols0) (oksk obOk_cell oks0) (argOb rfl rfl rfl argO0) rfl (fun i => rfl) (fun i => oksk obOk_cell oks0) (fun i o ho => by cases ho) ?_
  rintro ⟨w, r1⟩ ⟨hl, hf1⟩
  simp only at hl hf1 ⊢
  all_goals refine awpOps_cons (op_alloc (o := 7) z29 rfl rfl) ?_
  all_goals refine awpOps_cons (op_st ty29 rfl rfl (Conv.of rfl) rfl) ?_
  all_goals refine awpOps_nil ?_
  all_goals refine awp_seq (awp_region (id := 3) ?_)
  all_goals refine awpOps_cons (op_mv rfl (Conv.of rfl) rfl) ?_
  refine awpOps_callO [(0, .cell r1)] rfl fb72 (.cons rfl (Conv.of rfl) (.cons rfl (Conv.of rfl) (.nil _))) (paysA_ct r1 (hf1.weak (by omega)) 5 (by omega)) (olsk rfl ols0) (oksk obOk_cell oks0) (argOb rfl rfl rfl (argOk' rfl rfl argO0)) rfl ?_
  rintro r_ h' ⟨ps, r2, rfl, rfl, hps, q1, q2⟩
  refine ⟨[(0, .cell r2), (2, .arr ps)], rfl, fun o ho => ?_, fun o ho h1 => ?_, oksk obOk_cell (oksk obOk_arr oks0), fun o ho => ?_, ?_⟩
  · have : o = 0 := by simpa [keys, lk0] using ho
    subst this; rfl
  · by_cases e0 : o = 0
    · subst e0; cases h1
    · have : o = 2 := by simpa [keys, lk0, e0] using ho
      subst this; rfl
  · have : o = 2 := by simpa using (show o ∈ [2] from ho)
    subst this; rfl
  have hf2 : Far 22000 r2 := by unfold Far at hf1 ⊢; omega
  have hf3 : Far 22001 (nx r2 1) := hf2.nx (by omega) (by omega)
  all_goals refine awpOps_cons (op_as rfl (Conv.of rfl) rfl) ?_
  all_goals refine awpOps_nil ?_
  refine awp_seq_ex (ι := List Pay) (fun i => mkSt 27 [(6, .v i), (2, .box 5 (IsLens.whole Wrld)), (5, .box 7 (IsLens.whole Wrld))] [(5, .cell Wrld.zero), (7, .cell w)]) (fun i => i.length ≤ 10) ?_ ?_
  · all_goals refine awp_seq (awp_region (id := 4) ?_)
    all_goals refine awpOps_cons (op_mv rfl (Conv.of rfl) rfl) ?_
    all_goals refine awpOps_cons (op_lenA sl51 rfl rfl rfl) ?_
    all_goals refine awpOps_cons (op_gtr rfl rfl rfl) ?_
    all_goals refine awpOps_cons (op_mv rfl (Conv.of rfl) rfl) ?_
    all_goals refine g_split (t := 16) rfl (fun h => ?_) (fun h => ?_)
    all_goals first | refine awpOps_cons (g_off rfl rfl rfl rfl rfl) ?_ | refine awpOps_cons (g_on rfl rfl rfl (op_mv rfl (Conv.of rfl) rfl)) ?_
    all_goals first | refine awpOps_cons (g_off rfl rfl rfl rfl rfl) ?_ | refine awpOps_cons (g_on rfl rfl rfl (op_callO fb54 (.cons rfl (Conv.of rfl) (.cons rfl (Conv.of rfl) (.nil _))) (pick_ct r2 12 (by unfold Far at hf2; omega)) (olsk rfl ols0) (oksk (by exact obOk_cell) oks0) (oksk (by exact obOk_cell) oks0) rfl (argOb rfl rfl rfl (argOk' rfl rfl argO0)) (fun o ho => by cases ho) rfl)) ?_
    all_goals first | refine awpOps_cons (g_off rfl rfl rfl rfl rfl) ?_ | refine awpOps_cons (g_on rfl rfl rfl (op_eql rfl rfl rfl)) ?_
    all_goals refine awpOps_cons (op_pick rfl rfl rfl rfl) ?_
    all_goals refine awpOps_nil ?_
    · have hpos : 0 < ps.length := by have h' : (0 : Int) < ((ps.length : Nat) : Int) := of_decide_eq_true h; omega
      have hx : ps[(0 : Int).toNat]? = some (ps[0]'hpos) := List.getElem?_eq_getElem hpos
      generalize ps[0]'hpos = p0 at hx
      refine awp_cond rfl (fun h2 => ?_) (fun h2 => ?_)
      · all_goals refine awp_region (id := 5) ?_
        all_goals refine awpOps_cons (op_mv rfl (Conv.of rfl) rfl) ?_
        all_goals refine awpOps_cons (op_mv rfl (Conv.of rfl) rfl) ?_
        all_goals refine awpOps_cons (op_callO fb73 (.cons rfl (Conv.of rfl) (.nil _)) (anyPay_ct (nx r2 1) (hf3.weak (by omega))) (olsk rfl ols0) (oksk (by exact obOk_cell) oks0) (oksk (by exact obOk_cell) oks0) rfl (argOb rfl rfl rfl argO0) (fun o ho => by cases ho) rfl) ?_
        all_goals refine awpOps_cons (op_ixA sl51 rfl rfl rfl rfl ⟨by omega, by show 0 < _; omega⟩) ?_
        all_goals refine awpOps_cons (op_ste ty58 rfl rfl (Conv.of rfl) rfl hx) ?_
        all_goals refine awpOps_nil ?_
        repeat first | refine nx_seq ?_ | refine nx_block ?_
        refine ⟨ps.set 0 (anyPayF (nx r2 1)).1, by simp; omega, ?_⟩
        exact Le.trans (b := mkSt 27 [(6, .v (NRef.ref 2)), (2, .box 5 (IsLens.whole Wrld)), (5, .box 7 (IsLens.whole Wrld))] [(2, .arr (ps.set 0 (anyPayF (nx r2 1)).1)), (5, .cell Wrld.zero), (7, .cell w)]) (Le.mk rfl (tlb rfl rfl rfl (tlb rfl rfl rfl (tlb rfl rfl rfl tln))) (olk rfl (by exact obOk_arr) (olk rfl (by exact obOk_cell) (olk rfl (by exact obOk_cell) oln))) noS) (Le.frz (o := 2) (t := 6) (by show _ ≤ 4611686018427387904; simp; omega) noS rfl rfl (oblk obOk_cell (oblk obOk_cell obl0)))
      · refine awp_skip ?_
        repeat first | refine nx_seq ?_ | refine nx_block ?_
        refine ⟨ps, hps, ?_⟩
        exact Le.trans (b := mkSt 27 [(6, .v (NRef.ref 2)), (2, .box 5 (IsLens.whole Wrld)), (5, .box 7 (IsLens.whole Wrld))] [(2, .arr ps), (5, .cell Wrld.zero), (7, .cell w)]) (Le.mk rfl (tlb rfl rfl rfl (tlb rfl rfl rfl (tlb rfl rfl rfl tln))) (olk rfl (by exact obOk_arr) (olk rfl (by exact obOk_cell) (olk rfl (by exact obOk_cell) oln))) noS) (Le.frz (o := 2) (t := 6) (by show _ ≤ 4611686018427387904; omega) noS rfl rfl (oblk obOk_cell (oblk obOk_cell obl0)))
    · refine awp_cond rfl (fun h2 => absurd h2 (by decide)) (fun h2 => ?_)
      refine awp_skip ?_
      repeat first | refine nx_seq ?_ | refine nx_block ?_
      refine ⟨ps, hps, ?_⟩
      exact Le.trans (b := mkSt 27 [(6, .v (NRef.ref 2)), (2, .box 5 (IsLens.whole Wrld)), (5, .box 7 (IsLens.whole Wrld))] [(2, .arr ps), (5, .cell Wrld.zero), (7, .cell w)]) (Le.mk rfl (tlb rfl rfl rfl (tlb rfl rfl rfl (tlb rfl rfl rfl tln))) (olk rfl (by exact obOk_arr) (olk rfl (by exact obOk_cell) (olk rfl (by exact obOk_cell) oln))) noS) (Le.frz (o := 2) (t := 6) (by show _ ≤ 4611686018427387904; omega) noS rfl rfl (oblk obOk_cell (oblk obOk_cell obl0)))
  · rintro ps2 hps2
    all_goals refine awp_seq (awp_region (id := 6) ?_)
    all_goals refine awpOps_cons (op_ld ty29 rfl rfl rfl) ?_
    all_goals refine awpOps_cons (op_mv rfl (Conv.of rfl) rfl) ?_
    all_goals refine awpOps_cons (op_st ty29 rfl rfl (Conv.of rfl) rfl) ?_
    all_goals refine awpOps_cons (op_as rfl (Conv.of rfl) rfl) ?_
    all_goals refine awpOps_nil ?_
    refine awp_ret ?_
    repeat first | refine rt_seq ?_ | refine rt_block ?_
    exact ⟨_, _, resN (ol := []) (.cons (.rc ty29 rfl rfl) (.cons (.v rfl (Conv.of rfl)) .nil)) rfl (fun o ho => absurd (show o ∈ ([] : List Nat) from ho) (by simp)) oln noS, _, _, rfl, rfl, hps2⟩
end Go.Proofs.YtmdhfalfppkpeaaGreat

/- The laws' own words: the same chains, votes, nodes, worlds. -/
set_option linter.unusedVariables false
set_option linter.unusedSimpArgs false
namespace Go.Proofs.YtmdhfalfppkpeaaGreat
open Go Go.Wt
theorem lwSame_ct (a b : List Itm) : CtP Tryz.prog 22 [.v a, .v b] (.v (decide (a = b))) := by
  refine Ct.intro Tryz.func22 rfl rfl ?_
  refine awp_bigL 0 rfl (fun hB => ?_)
  all_goals refine awp_seq (awp_region (id := 0) ?_)
  all_goals refine awpOps_cons (op_as rfl (Conv.of rfl) rfl) ?_
  all_goals refine awpOps_nil ?_
  all_goals refine awp_seq (awp_seq (awp_region (id := 1) ?_))
  all_goals refine awpOps_cons (op_mv rfl (Conv.of rfl) rfl) ?_
  all_goals refine awpOps_cons (op_len sl34 rfl rfl) ?_
  all_goals refine awpOps_cons (op_mv rfl (Conv.of rfl) rfl) ?_
  all_goals refine awpOps_cons (op_len sl34 rfl rfl) ?_
  all_goals refine awpOps_cons (op_neq rfl rfl rfl) ?_
  all_goals refine awpOps_nil ?_
  refine awp_cond rfl (fun h => ?_) (fun h => ?_)
  · all_goals refine awp_seq (awp_region (id := 2) ?_)
    all_goals refine awpOps_cons (op_as rfl (Conv.of rfl) rfl) ?_
    all_goals refine awpOps_nil ?_
    refine awp_ret ?_
    repeat first | refine rt_seq ?_ | refine rt_block ?_
    refine finP (.v rfl (Conv.of rfl)) rfl ?_
    show AV.v false = _
    have : a ≠ b := by intro e; subst e; simp at h
    simp [this]
  · refine awp_skip ?_
    have hlen : a.length = b.length := by simp at h; omega
    all_goals refine awp_seq (awp_seq (awp_region (id := 3) ?_))
    all_goals refine awpOps_cons (op_as rfl (Conv.of rfl) rfl) ?_
    all_goals refine awpOps_nil ?_
    refine awp_block ?_
    refine awp_loop' (fun n s => ∃ (k : Nat), ∃ (hn : n + k = a.length), ∃ (hall : decide (a = b) = decide (a.drop k = b.drop k)), s = mkSt 26 [(0, .v a), (1, .v b), (5, .v (k : Int))] []) (a.length) ⟨0, by omega, rfl, rfl⟩ (Le.mk rfl (tle rfl (rfl) rfl (tle rfl (rfl) rfl (tle rfl (rfl) rfl tln))) oln noS) ?_
    rintro n s ⟨k, hn, hall, rfl⟩
    all_goals refine awp_seq (awp_seq (awp_region (id := 4) ?_))
    all_goals refine awpOps_cons (op_mv rfl (Conv.of rfl) rfl) ?_
    all_goals refine awpOps_cons (op_mv rfl (Conv.of rfl) rfl) ?_
    all_goals refine awpOps_cons (op_len sl34 rfl rfl) ?_
    all_goals refine awpOps_cons (op_lss rfl rfl rfl) ?_
    all_goals refine awpOps_nil ?_
    refine awp_cond rfl (fun h => ?_) (fun h => ?_)
    · have hlt : k < a.length := by simpa using h
      have hx : a[k]? = some a[k] := List.getElem?_eq_getElem hlt
      have hy : b[k]? = some (b[k]'(by omega)) := List.getElem?_eq_getElem (by omega)
      have hs := same_drop hx hy
      refine awp_skip ?_
      refine awp_seq (awp_block ?_)
      all_goals refine awp_seq (dr_start (id := 6) ?_)
      all_goals refine dr_cons (op_mv rfl (Conv.of rfl) rfl) ?_
      all_goals refine dr_cons (op_mv rfl (Conv.of rfl) rfl) ?_
      all_goals refine dr_cons (op_ix sl34 rfl rfl rfl (by omega) hx) ?_
      all_goals refine dr_cons (op_ldr ty60 rfl rfl) ?_
      all_goals refine dr_cons (op_mv rfl (Conv.of rfl) rfl) ?_
      all_goals refine dr_cons (op_mv rfl (Conv.of rfl) rfl) ?_
      all_goals refine dr_cons (op_ix sl34 rfl rfl rfl (by omega) hy) ?_
      all_goals refine dr_cons (op_ldr ty60 rfl rfl) ?_
      all_goals refine dr_cons (op_nea weq60 rfl rfl rfl) ?_
      all_goals refine dr_nil mixed rfl ?_
      refine awp_cond rfl (fun h => ?_) (fun h => ?_)
      · all_goals refine awp_seq (awp_region (id := 7) ?_)
        all_goals refine awpOps_cons (op_as rfl (Conv.of rfl) rfl) ?_
        all_goals refine awpOps_nil ?_
        refine awp_ret ?_
        repeat first | refine rt_seq ?_ | refine rt_block ?_
        refine finP (.v rfl (Conv.of rfl)) rfl ?_
        show AV.v false = _
        have h' : decide (a[k] = b[k]) = false := by simpa using h
        rw [hall, hs, h', Bool.false_and]
      · refine awp_skip ?_
        all_goals refine awp_region (id := 5) ?_
        all_goals refine awpOps_cons (op_mv rfl (Conv.of rfl) rfl) ?_
        all_goals refine awpOps_cons (op_add rfl rfl rfl (by omega)) ?_
        all_goals refine awpOps_cons (op_as rfl (Conv.of rfl) rfl) ?_
        all_goals refine awpOps_nil ?_
        have h' : decide (a[k] = b[k]) = true := by simpa using h
        repeat first | refine nx_seq ?_ | refine nx_block ?_
        exact ⟨n - 1, _, by omega, ⟨k + 1, by omega, by rw [hall, hs, h', Bool.true_and], rfl⟩, Le.mk rfl (tle rfl (rfl) rfl (tle rfl (rfl) rfl (tle rfl (rfl) rfl tln))) oln noS⟩
    · refine awp_exit ?_
      repeat refine ex_seq ?_
      refine ex_block ?_
      have hk : a.length ≤ k := by simpa using h
      all_goals refine awp_seq (awp_region (id := 8) ?_)
      all_goals refine awpOps_cons (op_as rfl (Conv.of rfl) rfl) ?_
      all_goals refine awpOps_nil ?_
      refine awp_ret ?_
      repeat first | refine rt_seq ?_ | refine rt_block ?_
      refine finP (.v rfl (Conv.of rfl)) rfl ?_
      show AV.v true = _
      rw [hall, drop_end hk, drop_end (by omega : b.length ≤ k)]
      simp
theorem lwVote_ct (a b : Vote) : CtP Tryz.prog 41 [.v a, .v b] (.v (decide (a = b))) := by
  refine Ct.intro Tryz.func41 rfl rfl ?_
  all_goals refine awp_seq (awp_region (id := 0) ?_)
  all_goals refine awpOps_cons (op_box (o := 0) ty48 rfl (Conv.of rfl) rfl rfl) ?_
  all_goals refine awpOps_cons (op_box (o := 1) ty48 rfl (Conv.of rfl) rfl rfl) ?_
  all_goals refine awpOps_cons (op_as rfl (Conv.of rfl) rfl) ?_
  all_goals refine awpOps_nil ?_
  all_goals refine awp_seq (awp_region (id := 1) ?_)
  all_goals refine awpOps_cons (op_fab f48_0 rfl rfl) ?_
  all_goals refine awpOps_cons (op_ld ty3 rfl rfl rfl) ?_
  all_goals refine awpOps_cons (op_fab f48_0 rfl rfl) ?_
  all_goals refine awpOps_cons (op_ld ty3 rfl rfl rfl) ?_
  all_goals refine awpOps_cons (op_eql rfl rfl rfl) ?_
  all_goals refine awpOps_cons (op_mv rfl (Conv.of rfl) rfl) ?_
  all_goals refine g_split (t := 10) rfl (fun h => ?_) (fun h => ?_)
  all_goals first | refine awpOps_cons (g_off rfl rfl rfl rfl rfl) ?_ | refine awpOps_cons (g_on rfl rfl rfl (op_fab f48_1 rfl rfl)) ?_
  all_goals first | refine awpOps_cons (g_off rfl rfl rfl rfl rfl) ?_ | refine awpOps_cons (g_on rfl rfl rfl (op_ld ty34 rfl rfl rfl)) ?_
  all_goals first | refine awpOps_cons (g_off rfl rfl rfl rfl rfl) ?_ | refine awpOps_cons (g_on rfl rfl rfl (op_fab f48_1 rfl rfl)) ?_
  all_goals first | refine awpOps_cons (g_off rfl rfl rfl rfl rfl) ?_ | refine awpOps_cons (g_on rfl rfl rfl (op_ld ty34 rfl rfl rfl)) ?_
  all_goals first | refine awpOps_cons (g_off rfl rfl rfl rfl rfl) ?_ | refine awpOps_cons (g_on rfl rfl rfl (op_call fb22 (.cons rfl (Conv.of rfl) (.cons rfl (Conv.of rfl) (.nil _))) (lwSame_ct _ _) (argOk rfl rfl (argOk rfl rfl argOk0)) rfl rfl)) ?_
  all_goals refine awpOps_cons (op_pick rfl rfl rfl rfl) ?_
  all_goals refine awpOps_cons (op_as rfl (Conv.of rfl) rfl) ?_
  all_goals refine awpOps_nil ?_
  all_goals refine awp_ret ?_
  all_goals refine finP (.v rfl (Conv.of rfl)) rfl ?_
  all_goals (obtain ⟨a1, a2⟩ := a; obtain ⟨b1, b2⟩ := b; simp_all [FV.av])
theorem lwVotes_ct (a b : List Vote) : CtP Tryz.prog 49 [.v a, .v b] (.v (decide (a = b))) := by
  refine Ct.intro Tryz.func49 rfl rfl ?_
  refine awp_bigL 0 rfl (fun hB => ?_)
  all_goals refine awp_seq (awp_region (id := 0) ?_)
  all_goals refine awpOps_cons (op_as rfl (Conv.of rfl) rfl) ?_
  all_goals refine awpOps_nil ?_
  all_goals refine awp_seq (awp_seq (awp_region (id := 1) ?_))
  all_goals refine awpOps_cons (op_mv rfl (Conv.of rfl) rfl) ?_
  all_goals refine awpOps_cons (op_len sl27 rfl rfl) ?_
  all_goals refine awpOps_cons (op_mv rfl (Conv.of rfl) rfl) ?_
  all_goals refine awpOps_cons (op_len sl27 rfl rfl) ?_
  all_goals refine awpOps_cons (op_neq rfl rfl rfl) ?_
  all_goals refine awpOps_nil ?_
  refine awp_cond rfl (fun h => ?_) (fun h => ?_)
  · all_goals refine awp_seq (awp_region (id := 2) ?_)
    all_goals refine awpOps_cons (op_as rfl (Conv.of rfl) rfl) ?_
    all_goals refine awpOps_nil ?_
    refine awp_ret ?_
    repeat first | refine rt_seq ?_ | refine rt_block ?_
    refine finP (.v rfl (Conv.of rfl)) rfl ?_
    show AV.v false = _
    have : a ≠ b := by intro e; subst e; simp at h
    simp [this]
  · refine awp_skip ?_
    have hlen : a.length = b.length := by simp at h; omega
    all_goals refine awp_seq (awp_seq (awp_region (id := 3) ?_))
    all_goals refine awpOps_cons (op_as rfl (Conv.of rfl) rfl) ?_
    all_goals refine awpOps_nil ?_
    refine awp_block ?_
    refine awp_loop' (fun n s => ∃ (k : Nat), ∃ (hn : n + k = a.length), ∃ (hall : decide (a = b) = decide (a.drop k = b.drop k)), s = mkSt 27 [(0, .v a), (1, .v b), (5, .v (k : Int))] []) (a.length) ⟨0, by omega, rfl, rfl⟩ (Le.mk rfl (tle rfl (rfl) rfl (tle rfl (rfl) rfl (tle rfl (rfl) rfl tln))) oln noS) ?_
    rintro n s ⟨k, hn, hall, rfl⟩
    all_goals refine awp_seq (awp_seq (awp_region (id := 4) ?_))
    all_goals refine awpOps_cons (op_mv rfl (Conv.of rfl) rfl) ?_
    all_goals refine awpOps_cons (op_mv rfl (Conv.of rfl) rfl) ?_
    all_goals refine awpOps_cons (op_len sl27 rfl rfl) ?_
    all_goals refine awpOps_cons (op_lss rfl rfl rfl) ?_
    all_goals refine awpOps_nil ?_
    refine awp_cond rfl (fun h => ?_) (fun h => ?_)
    · have hlt : k < a.length := by simpa using h
      have hx : a[k]? = some a[k] := List.getElem?_eq_getElem hlt
      have hy : b[k]? = some (b[k]'(by omega)) := List.getElem?_eq_getElem (by omega)
      have hs := same_drop hx hy
      refine awp_skip ?_
      refine awp_seq (awp_block ?_)
      all_goals refine awp_seq (dr_start (id := 6) ?_)
      all_goals refine dr_cons (op_mv rfl (Conv.of rfl) rfl) ?_
      all_goals refine dr_cons (op_mv rfl (Conv.of rfl) rfl) ?_
      all_goals refine dr_cons (op_ix sl27 rfl rfl rfl (by omega) hx) ?_
      all_goals refine dr_cons (op_ldr ty48 rfl rfl) ?_
      all_goals refine dr_cons (op_mv rfl (Conv.of rfl) rfl) ?_
      all_goals refine dr_cons (op_mv rfl (Conv.of rfl) rfl) ?_
      all_goals refine dr_cons (op_ix sl27 rfl rfl rfl (by omega) hy) ?_
      all_goals refine dr_cons (op_ldr ty48 rfl rfl) ?_
      all_goals refine dr_cons (op_call fb41 (.cons rfl (Conv.of rfl) (.cons rfl (Conv.of rfl) (.nil _))) (lwVote_ct _ _) (argOk rfl rfl (argOk rfl rfl argOk0)) rfl rfl) ?_
      all_goals refine dr_cons (op_not rfl rfl) ?_
      all_goals refine dr_nil mixed rfl ?_
      refine awp_cond rfl (fun h => ?_) (fun h => ?_)
      · all_goals refine awp_seq (awp_region (id := 7) ?_)
        all_goals refine awpOps_cons (op_as rfl (Conv.of rfl) rfl) ?_
        all_goals refine awpOps_nil ?_
        refine awp_ret ?_
        repeat first | refine rt_seq ?_ | refine rt_block ?_
        refine finP (.v rfl (Conv.of rfl)) rfl ?_
        show AV.v false = _
        have h' : decide (a[k] = b[k]) = false := by simpa using h
        rw [hall, hs, h', Bool.false_and]
      · refine awp_skip ?_
        all_goals refine awp_region (id := 5) ?_
        all_goals refine awpOps_cons (op_mv rfl (Conv.of rfl) rfl) ?_
        all_goals refine awpOps_cons (op_add rfl rfl rfl (by omega)) ?_
        all_goals refine awpOps_cons (op_as rfl (Conv.of rfl) rfl) ?_
        all_goals refine awpOps_nil ?_
        have h' : decide (a[k] = b[k]) = true := by simpa using h
        repeat first | refine nx_seq ?_ | refine nx_block ?_
        exact ⟨n - 1, _, by omega, ⟨k + 1, by omega, by rw [hall, hs, h', Bool.true_and], rfl⟩, Le.mk rfl (tle rfl (rfl) rfl (tle rfl (rfl) rfl (tle rfl (rfl) rfl tln))) oln noS⟩
    · refine awp_exit ?_
      repeat refine ex_seq ?_
      refine ex_block ?_
      have hk : a.length ≤ k := by simpa using h
      all_goals refine awp_seq (awp_region (id := 8) ?_)
      all_goals refine awpOps_cons (op_as rfl (Conv.of rfl) rfl) ?_
      all_goals refine awpOps_nil ?_
      refine awp_ret ?_
      repeat first | refine rt_seq ?_ | refine rt_block ?_
      refine finP (.v rfl (Conv.of rfl)) rfl ?_
      show AV.v true = _
      rw [hall, drop_end hk, drop_end (by omega : b.length ≤ k)]
      simp
theorem lwNode_ct (a b : Nod) : CtP Tryz.prog 40 [.v a, .v b] (.v (decide (a = b))) := by
  refine Ct.intro Tryz.func40 rfl rfl ?_
  all_goals refine awp_seq (awp_region (id := 0) ?_)
  all_goals refine awpOps_cons (op_box (o := 0) ty41 rfl (Conv.of rfl) rfl rfl) ?_
  all_goals refine awpOps_cons (op_box (o := 1) ty41 rfl (Conv.of rfl) rfl rfl) ?_
  all_goals refine awpOps_cons (op_as rfl (Conv.of rfl) rfl) ?_
  all_goals refine awpOps_nil ?_
  all_goals refine awp_seq (awp_region (id := 1) ?_)
  all_goals refine awpOps_cons (op_fab f41_0 rfl rfl) ?_
  all_goals refine awpOps_cons (op_ld ty3 rfl rfl rfl) ?_
  all_goals refine awpOps_cons (op_fab f41_0 rfl rfl) ?_
  all_goals refine awpOps_cons (op_ld ty3 rfl rfl rfl) ?_
  all_goals refine awpOps_cons (op_eql rfl rfl rfl) ?_
  all_goals refine awpOps_cons (op_mv rfl (Conv.of rfl) rfl) ?_
  all_goals refine g_split (t := 10) rfl (fun h => ?_) (fun h => ?_)
  all_goals first | refine awpOps_cons (g_off rfl rfl rfl rfl rfl) ?_ | refine awpOps_cons (g_on rfl rfl rfl (op_fab f41_1 rfl rfl)) ?_
  all_goals first | refine awpOps_cons (g_off rfl rfl rfl rfl rfl) ?_ | refine awpOps_cons (g_on rfl rfl rfl (op_ld ty3 rfl rfl rfl)) ?_
  all_goals first | refine awpOps_cons (g_off rfl rfl rfl rfl rfl) ?_ | refine awpOps_cons (g_on rfl rfl rfl (op_fab f41_1 rfl rfl)) ?_
  all_goals first | refine awpOps_cons (g_off rfl rfl rfl rfl rfl) ?_ | refine awpOps_cons (g_on rfl rfl rfl (op_ld ty3 rfl rfl rfl)) ?_
  all_goals first | refine awpOps_cons (g_off rfl rfl rfl rfl rfl) ?_ | refine awpOps_cons (g_on rfl rfl rfl (op_eql rfl rfl rfl)) ?_
  all_goals refine awpOps_cons (op_pick rfl rfl rfl rfl) ?_
  all_goals refine awpOps_cons (op_mv rfl (Conv.of rfl) rfl) ?_
  all_goals first | refine g_lit (t := 17) (b := false) rfl ?_ | refine g_split (t := 17) rfl (fun h => ?_) (fun h => ?_)
  all_goals first | refine awpOps_cons (g_off rfl rfl rfl rfl rfl) ?_ | refine awpOps_cons (g_on rfl rfl rfl (op_fab f41_2 rfl rfl)) ?_
  all_goals first | refine awpOps_cons (g_off rfl rfl rfl rfl rfl) ?_ | refine awpOps_cons (g_on rfl rfl rfl (op_ld ty3 rfl rfl rfl)) ?_
  all_goals first | refine awpOps_cons (g_off rfl rfl rfl rfl rfl) ?_ | refine awpOps_cons (g_on rfl rfl rfl (op_fab f41_2 rfl rfl)) ?_
  all_goals first | refine awpOps_cons (g_off rfl rfl rfl rfl rfl) ?_ | refine awpOps_cons (g_on rfl rfl rfl (op_ld ty3 rfl rfl rfl)) ?_
  all_goals first | refine awpOps_cons (g_off rfl rfl rfl rfl rfl) ?_ | refine awpOps_cons (g_on rfl rfl rfl (op_eql rfl rfl rfl)) ?_
  all_goals refine awpOps_cons (op_pick rfl rfl rfl rfl) ?_
  all_goals refine awpOps_cons (op_mv rfl (Conv.of rfl) rfl) ?_
  all_goals first | refine g_lit (t := 24) (b := false) rfl ?_ | refine g_split (t := 24) rfl (fun h => ?_) (fun h => ?_)
  all_goals first | refine awpOps_cons (g_off rfl rfl rfl rfl rfl) ?_ | refine awpOps_cons (g_on rfl rfl rfl (op_fab f41_3 rfl rfl)) ?_
  all_goals first | refine awpOps_cons (g_off rfl rfl rfl rfl rfl) ?_ | refine awpOps_cons (g_on rfl rfl rfl (op_ld ty27 rfl rfl rfl)) ?_
  all_goals first | refine awpOps_cons (g_off rfl rfl rfl rfl rfl) ?_ | refine awpOps_cons (g_on rfl rfl rfl (op_fab f41_3 rfl rfl)) ?_
  all_goals first | refine awpOps_cons (g_off rfl rfl rfl rfl rfl) ?_ | refine awpOps_cons (g_on rfl rfl rfl (op_ld ty27 rfl rfl rfl)) ?_
  all_goals first | refine awpOps_cons (g_off rfl rfl rfl rfl rfl) ?_ | refine awpOps_cons (g_on rfl rfl rfl (op_call fb49 (.cons rfl (Conv.of rfl) (.cons rfl (Conv.of rfl) (.nil _))) (lwVotes_ct _ _) (argOk rfl rfl (argOk rfl rfl argOk0)) rfl rfl)) ?_
  all_goals refine awpOps_cons (op_pick rfl rfl rfl rfl) ?_
  all_goals refine awpOps_cons (op_as rfl (Conv.of rfl) rfl) ?_
  all_goals refine awpOps_nil ?_
  all_goals refine awp_ret ?_
  all_goals refine finP (.v rfl (Conv.of rfl)) rfl ?_
  all_goals (obtain ⟨a1, a2, a3, a4⟩ := a; obtain ⟨b1, b2, b3, b4⟩ := b; simp_all [FV.av])
theorem lwWorld_ct (a b : Wrld) : CtP Tryz.prog 18 [.v a, .v b] (.v (decide (a = b))) := by
  refine Ct.intro Tryz.func18 rfl rfl ?_
  all_goals refine awp_seq (awp_region (id := 0) ?_)
  all_goals refine awpOps_cons (op_box (o := 0) ty29 rfl (Conv.of rfl) rfl rfl) ?_
  all_goals refine awpOps_cons (op_box (o := 1) ty29 rfl (Conv.of rfl) rfl rfl) ?_
  all_goals refine awpOps_cons (op_as rfl (Conv.of rfl) rfl) ?_
  all_goals refine awpOps_nil ?_
  refine awp_seq (awp_seq_to (s' := mkSt 54 [(2, .box 0 (IsLens.whole Wrld)), (3, .box 1 (IsLens.whole Wrld)), (34, .v (!(decide (a.epoch = b.epoch) && decide (a.bad = b.bad) && decide (a.nodes.length = b.nodes.length) && decide (a.log = b.log))))] [(0, .cell a), (1, .cell b)]) ?_ ?_)
  · all_goals refine awp_region (id := 1) ?_
    all_goals refine awpOps_cons (op_fab f29_0 rfl rfl) ?_
    all_goals refine awpOps_cons (op_ld ty3 rfl rfl rfl) ?_
    all_goals refine awpOps_cons (op_fab f29_0 rfl rfl) ?_
    all_goals refine awpOps_cons (op_ld ty3 rfl rfl rfl) ?_
    all_goals refine awpOps_cons (op_neq rfl rfl rfl) ?_
    all_goals refine awpOps_cons (op_mv rfl (Conv.of rfl) rfl) ?_
    all_goals refine g_split (t := 11) rfl (fun h => ?_) (fun h => ?_)
    all_goals first | refine awpOps_cons (g_off rfl rfl rfl rfl rfl) ?_ | refine awpOps_cons (g_on rfl rfl rfl (op_fab f29_3 rfl rfl)) ?_
    all_goals first | refine awpOps_cons (g_off rfl rfl rfl rfl rfl) ?_ | refine awpOps_cons (g_on rfl rfl rfl (op_ld ty3 rfl rfl rfl)) ?_
    all_goals first | refine awpOps_cons (g_off rfl rfl rfl rfl rfl) ?_ | refine awpOps_cons (g_on rfl rfl rfl (op_fab f29_3 rfl rfl)) ?_
    all_goals first | refine awpOps_cons (g_off rfl rfl rfl rfl rfl) ?_ | refine awpOps_cons (g_on rfl rfl rfl (op_ld ty3 rfl rfl rfl)) ?_
    all_goals first | refine awpOps_cons (g_off rfl rfl rfl rfl rfl) ?_ | refine awpOps_cons (g_on rfl rfl rfl (op_neq rfl rfl rfl)) ?_
    all_goals refine awpOps_cons (op_pick rfl rfl rfl rfl) ?_
    all_goals refine awpOps_cons (op_mv rfl (Conv.of rfl) rfl) ?_
    all_goals first | refine g_lit (t := 18) (b := true) rfl ?_ | refine g_split (t := 18) rfl (fun h => ?_) (fun h => ?_)
    all_goals first | refine awpOps_cons (g_off rfl rfl rfl rfl rfl) ?_ | refine awpOps_cons (g_on rfl rfl rfl (op_fab f29_1 rfl rfl)) ?_
    all_goals first | refine awpOps_cons (g_off rfl rfl rfl rfl rfl) ?_ | refine awpOps_cons (g_on rfl rfl rfl (op_ld ty26 rfl rfl rfl)) ?_
    all_goals first | refine awpOps_cons (g_off rfl rfl rfl rfl rfl) ?_ | refine awpOps_cons (g_on rfl rfl rfl (op_len sl26 rfl rfl)) ?_
    all_goals first | refine awpOps_cons (g_off rfl rfl rfl rfl rfl) ?_ | refine awpOps_cons (g_on rfl rfl rfl (op_fab f29_1 rfl rfl)) ?_
    all_goals first | refine awpOps_cons (g_off rfl rfl rfl rfl rfl) ?_ | refine awpOps_cons (g_on rfl rfl rfl (op_ld ty26 rfl rfl rfl)) ?_
    all_goals first | refine awpOps_cons (g_off rfl rfl rfl rfl rfl) ?_ | refine awpOps_cons (g_on rfl rfl rfl (op_len sl26 rfl rfl)) ?_
    all_goals first | refine awpOps_cons (g_off rfl rfl rfl rfl rfl) ?_ | refine awpOps_cons (g_on rfl rfl rfl (op_neq rfl rfl rfl)) ?_
    all_goals refine awpOps_cons (op_pick rfl rfl rfl rfl) ?_
    all_goals refine awpOps_cons (op_mv rfl (Conv.of rfl) rfl) ?_
    all_goals first | refine g_lit (t := 27) (b := true) rfl ?_ | refine g_split (t := 27) rfl (fun h => ?_) (fun h => ?_)
    all_goals first | refine awpOps_cons (g_off rfl rfl rfl rfl rfl) ?_ | refine awpOps_cons (g_on rfl rfl rfl (op_fab f29_2 rfl rfl)) ?_
    all_goals first | refine awpOps_cons (g_off rfl rfl rfl rfl rfl) ?_ | refine awpOps_cons (g_on rfl rfl rfl (op_ld ty27 rfl rfl rfl)) ?_
    all_goals first | refine awpOps_cons (g_off rfl rfl rfl rfl rfl) ?_ | refine awpOps_cons (g_on rfl rfl rfl (op_fab f29_2 rfl rfl)) ?_
    all_goals first | refine awpOps_cons (g_off rfl rfl rfl rfl rfl) ?_ | refine awpOps_cons (g_on rfl rfl rfl (op_ld ty27 rfl rfl rfl)) ?_
    all_goals first | refine awpOps_cons (g_off rfl rfl rfl rfl rfl) ?_ | refine awpOps_cons (g_on rfl rfl rfl (op_call fb49 (.cons rfl (Conv.of rfl) (.cons rfl (Conv.of rfl) (.nil _))) (lwVotes_ct _ _) (argOk rfl rfl (argOk rfl rfl argOk0)) rfl rfl)) ?_
    all_goals first | refine awpOps_cons (g_off rfl rfl rfl rfl rfl) ?_ | refine awpOps_cons (g_on rfl rfl rfl (op_not rfl rfl)) ?_
    all_goals refine awpOps_cons (op_pick rfl rfl rfl rfl) ?_
    all_goals refine awpOps_nil ?_
    all_goals exact Le.mk rfl (tlb rfl rfl rfl (tlb rfl rfl rfl (tle rfl (by (simp_all <;> omega)) rfl tln))) (olk rfl (by exact obOk_cell) (olk rfl (by exact obOk_cell) oln)) noS
  refine awp_cond rfl (fun h => ?_) (fun h => ?_)
  · all_goals refine awp_seq (awp_region (id := 2) ?_)
    all_goals refine awpOps_cons (op_as rfl (Conv.of rfl) rfl) ?_
    all_goals refine awpOps_nil ?_
    refine awp_ret ?_
    repeat first | refine rt_seq ?_ | refine rt_block ?_
    refine finP (.v rfl (Conv.of rfl)) rfl ?_
    show AV.v false = _
    have : a ≠ b := by intro e; subst e; simp at h
    simp [this]
  · have h0 := not_f h
    simp only [Bool.and_eq_true, decide_eq_true_eq] at h0
    obtain ⟨⟨⟨g1, g2⟩, g3⟩, g4⟩ := h0
    have heq : decide (a = b) = decide (a.nodes = b.nodes) := by
      obtain ⟨a1, a2, a3, a4⟩ := a
      obtain ⟨b1, b2, b3, b4⟩ := b
      simp_all
    refine awp_skip ?_
    all_goals refine awp_seq (awp_seq (awp_region (id := 3) ?_))
    all_goals refine awpOps_cons (op_as rfl (Conv.of rfl) rfl) ?_
    all_goals refine awpOps_nil ?_
    refine awp_block ?_
    refine awp_loop' (fun n s => ∃ (k : Nat), ∃ (hn : n + k = a.nodes.length), ∃ (hall : decide (a = b) = decide (a.nodes.drop k = b.nodes.drop k)), s = mkSt 54 [(2, .box 0 (IsLens.whole Wrld)), (3, .box 1 (IsLens.whole Wrld)), (5, .v (k : Int))] [(0, .cell a), (1, .cell b)]) (a.nodes.length) ⟨0, by omega, heq, rfl⟩ (Le.mk rfl (tlb rfl rfl rfl (tlb rfl rfl rfl (tle rfl (rfl) rfl tln))) (olk rfl (by exact obOk_cell) (olk rfl (by exact obOk_cell) oln)) noS) ?_
    rintro n s ⟨k, hn, hall, rfl⟩
    all_goals refine awp_seq (awp_seq (awp_region (id := 4) ?_))
    all_goals refine awpOps_cons (op_mv rfl (Conv.of rfl) rfl) ?_
    all_goals refine awpOps_cons (op_fab f29_1 rfl rfl) ?_
    all_goals refine awpOps_cons (op_ld ty26 rfl rfl rfl) ?_
    refine awpOps_bigL 37 rfl (fun hB => ?_)
    all_goals refine awpOps_cons (op_len sl26 rfl rfl) ?_
    all_goals refine awpOps_cons (op_lss rfl rfl rfl) ?_
    all_goals refine awpOps_nil ?_
    refine awp_cond rfl (fun h => ?_) (fun h => ?_)
    · have hlt : k < a.nodes.length := by simpa using h
      have hx : a.nodes[k]? = some a.nodes[k] := List.getElem?_eq_getElem hlt
      have hy : b.nodes[k]? = some (b.nodes[k]'(by omega)) := List.getElem?_eq_getElem (by omega)
      have hs := same_drop hx hy
      refine awp_skip ?_
      refine awp_seq (awp_block ?_)
      all_goals refine awp_seq (dr_start (id := 6) ?_)
      all_goals refine dr_cons (op_fab f29_1 rfl rfl) ?_
      all_goals refine dr_cons (op_ld ty26 rfl rfl rfl) ?_
      all_goals refine dr_cons (op_mv rfl (Conv.of rfl) rfl) ?_
      all_goals refine dr_cons (op_ix sl26 rfl rfl rfl (by omega) hx) ?_
      all_goals refine dr_cons (op_ldr ty41 rfl rfl) ?_
      all_goals refine dr_cons (op_fab f29_1 rfl rfl) ?_
      all_goals refine dr_cons (op_ld ty26 rfl rfl rfl) ?_
      all_goals refine dr_cons (op_mv rfl (Conv.of rfl) rfl) ?_
      all_goals refine dr_cons (op_ix sl26 rfl rfl rfl (by omega) hy) ?_
      all_goals refine dr_cons (op_ldr ty41 rfl rfl) ?_
      all_goals refine dr_cons (op_call fb40 (.cons rfl (Conv.of rfl) (.cons rfl (Conv.of rfl) (.nil _))) (lwNode_ct _ _) (argOk rfl rfl (argOk rfl rfl argOk0)) rfl rfl) ?_
      all_goals refine dr_cons (op_not rfl rfl) ?_
      all_goals refine dr_nil mixed rfl ?_
      refine awp_cond rfl (fun h => ?_) (fun h => ?_)
      · all_goals refine awp_seq (awp_region (id := 7) ?_)
        all_goals refine awpOps_cons (op_as rfl (Conv.of rfl) rfl) ?_
        all_goals refine awpOps_nil ?_
        refine awp_ret ?_
        repeat first | refine rt_seq ?_ | refine rt_block ?_
        refine finP (.v rfl (Conv.of rfl)) rfl ?_
        show AV.v false = _
        have h' : decide (a.nodes[k] = b.nodes[k]) = false := by simpa using h
        rw [hall, hs, h', Bool.false_and]
      · refine awp_skip ?_
        all_goals refine awp_region (id := 5) ?_
        all_goals refine awpOps_cons (op_mv rfl (Conv.of rfl) rfl) ?_
        all_goals refine awpOps_cons (op_add rfl rfl rfl (by omega)) ?_
        all_goals refine awpOps_cons (op_as rfl (Conv.of rfl) rfl) ?_
        all_goals refine awpOps_nil ?_
        have h' : decide (a.nodes[k] = b.nodes[k]) = true := by simpa using h
        repeat first | refine nx_seq ?_ | refine nx_block ?_
        exact ⟨n - 1, _, by omega, ⟨k + 1, by omega, by rw [hall, hs, h', Bool.true_and], rfl⟩, Le.mk rfl (tlb rfl rfl rfl (tlb rfl rfl rfl (tle rfl (rfl) rfl tln))) (olk rfl (by exact obOk_cell) (olk rfl (by exact obOk_cell) oln)) noS⟩
    · refine awp_exit ?_
      repeat refine ex_seq ?_
      refine ex_block ?_
      have hk : a.nodes.length ≤ k := by simpa using h
      all_goals refine awp_seq (awp_region (id := 8) ?_)
      all_goals refine awpOps_cons (op_as rfl (Conv.of rfl) rfl) ?_
      all_goals refine awpOps_nil ?_
      refine awp_ret ?_
      repeat first | refine rt_seq ?_ | refine rt_block ?_
      refine finP (.v rfl (Conv.of rfl)) rfl ?_
      show AV.v true = _
      rw [hall, drop_end hk, drop_end (by omega : b.nodes.length ≤ k)]
      simp
end Go.Proofs.YtmdhfalfppkpeaaGreat

/- From a call's contract to the given row: slices of bytes that come in. -/
set_option linter.unusedVariables false
namespace Go.Wt
open Go Go.ChangeShapes Go.WideShapes Go.RowKit
/-- A slice of bytes that came in. -/
def IsRow (w : World) (a : Option Addr) (len cap : Nat) (zs : List Int) : Prop :=
  (a = none ∧ len = 0 ∧ cap = 0 ∧ zs = []) ∨
  ∃ x, a = some x ∧ len ≤ cap ∧ zs.length = cap ∧ (∀ i, i < zs.length → w.cell? (x.add i) = some (.int .u8 (zs.getD i 0))) ∧ ∀ n ∈ zs, (Lit.int .u8 n).wf = true
def G0 : Gh := ⟨fun _ _ => none, fun _ => none⟩
def codeOf (zs : List Int) (len : Nat) : List UInt8 := (zs.take len).map fun z => UInt8.ofNat z.toNat
theorem codeOf_rd {w : World} {a : Option Addr} {len cap : Nat} {zs : List Int} {ω : Owner} (h : IsRow w a len cap zs) (y : len ≤ 140737488351232) : RelV G0 w ω (.v (codeOf zs len)) (.slice a len cap) := by
  refine ⟨[.slice a len cap], ?_, rfl⟩
  rcases h with ⟨rfl, rfl, rfl, rfl⟩ | ⟨x, rfl, hl, hz, hc, hw⟩
  · exact ⟨none, 0, rfl, Nat.le_refl _, .inl rfl⟩
  · have hlen : (codeOf zs len).length = len := by simp [codeOf]; omega
    refine ⟨some x, cap, by rw [hlen], by rw [hlen]; exact hl, ?_⟩
    by_cases h0 : len = 0
    · left; exact List.eq_nil_of_length_eq_zero (by omega)
    · right
      obtain ⟨b, off, spot⟩ := x
      have h1 := hc 0 (by omega)
      have hsp : spot = none := by
        cases spot with
        | none => rfl
        | some s =>
          exfalso
          simp only [Addr.add, if_true, World.cell?] at h1
          split at h1 <;> simp at h1
      subst hsp
      refine ⟨b, off, rfl, by rw [hlen]; show len ≤ 4611686018427387904; omega, fun i u hu => ?_⟩
      have hi : i < len := by have := getElem?_lt hu; omega
      have hiz : i < zs.length := by omega
      have hu' : u = UInt8.ofNat (zs.getD i 0).toNat := by
        unfold codeOf at hu
        rw [List.getElem?_map, List.getElem?_take, if_pos hi, List.getElem?_eq_getElem hiz] at hu
        simp at hu
        rw [← hu, List.getD_eq_getElem?_getD, List.getElem?_eq_getElem hiz]; rfl
      have hwf := hw (zs.getD i 0) (by
        rw [List.getD_eq_getElem?_getD, List.getElem?_eq_getElem hiz]; exact List.getElem_mem hiz)
      have hn : ((u.toNat : Nat) : Int) = zs.getD i 0 := by
        have hb : 0 ≤ zs.getD i 0 ∧ zs.getD i 0 < 256 := by
          have hh : 0 ≤ zs.getD i 0 ∧ zs.getD i 0 ≤ 255 := by simpa [Lit.wf, IntKind.min, IntKind.max, IntKind.signed, IntKind.bits] using hwf
          omega
        rw [hu']
        have : (UInt8.ofNat (zs.getD i 0).toNat).toNat = (zs.getD i 0).toNat := by
          rw [UInt8.toNat_ofNat']; omega
        rw [this]; omega
      refine ⟨[.int .u8 u.toNat], rfl, fun j v hj => ?_⟩
      have hj0 : j = 0 := by
        have := getElem?_lt hj
        simp at this; exact this
      subst hj0
      simp at hj
      subst hj
      refine ⟨rfl, ?_⟩
      have h2 := hc i hiz
      have e : (⟨b, off, none⟩ : Addr).add i = ⟨b, off + i, none⟩ := add_lit b off i
      rw [e] at h2
      show cl w b (off + i * 1 + 0) = _
      rw [Nat.mul_one, Nat.add_zero]
      show w.cell? ⟨b, off + i, none⟩ = _
      rw [h2, hn]
theorem keep_below {S : Nat → Prop} {w w' : World} {G' : Gh} (h : Keep S G0 w G' w') : Below w.heap.size w w' :=
  ⟨h.os, h.tape, h.output, h.size, fun k hk => h.block k hk fun _ _ _ => .inl rfl⟩
theorem row_bool {P : Program} {f : FuncId} {args : List AV} {vs : List Value} {w : World} (h : CtP P f args (.v true)) (hr : RelAs G0 w 0 args vs) :
    Calls P f vs.toArray w fun e w' => e = .returned (.bool true) ∧ Below w.heap.size w w' :=
  (h G0 w vs hr fun o => rfl).mono fun e w' ⟨r, h', v, G', e1, ⟨e2, e3⟩, e4, e5, e6⟩ => by
    subst e2
    exact ⟨by rw [e1, RelV.bool e4], keep_below e6⟩
theorem row2 {P : Program} {f : FuncId} (h : ∀ code more : List UInt8, CtP P f [.v code, .v more] (.v true)) {a a2 : Option Addr} {len cap len2 cap2 : Nat} {zs zs2 : List Int} (w : World) (hr : IsRow w a len cap zs) (y : len ≤ 140737488351232)
    (hr2 : IsRow w a2 len2 cap2 zs2) (y2 : len2 ≤ 140737488351232) : Calls P f #[.slice a len cap, .slice a2 len2 cap2] w fun e w' => e = .returned (.bool true) ∧ Below w.heap.size w w' :=
  row_bool (vs := [_, _]) (h (codeOf zs len) (codeOf zs2 len2)) ⟨_, _, rfl, codeOf_rd hr y, _, _, rfl, codeOf_rd hr2 y2, rfl⟩
/-- What came in is read. -/
theorem rowOf {H : Type} {enc : TypeId × Value → H} {P : Program} {W : World} {base : Nat} {spare : Nat → Bool} {held : Bool} {t e : TypeId} {a : Option Addr} {len cap : Nat} {d : DataW H} {ps : List MemPlace} (hsp : ∀ b, spare b = true)
    (hu : P.underlying t = some (.slice e)) (he : P.underlying e = some (.int .u8)) (hc : P.cellsOf e = 1) (h : DataW.Trod enc P W base spare held t (.slice a len cap) d ps) : ∃ zs, IsRow W a len cap zs := by
  obtain ⟨fuel, hf⟩ := h
  rcases open_ints hu he hc hf with ⟨hcs, _⟩ | ⟨x, l, c, zs, hcs, _, hl, hm, hz, _, hcell, hwz⟩
  · simp [Value.cells] at hcs
    obtain ⟨rfl, rfl, rfl⟩ := hcs
    exact ⟨[], .inl ⟨rfl, rfl, rfl, rfl⟩⟩
  · simp [Value.cells] at hcs
    obtain ⟨rfl, rfl, rfl⟩ := hcs
    rw [if_pos (hsp _)] at hz
    exact ⟨zs, .inr ⟨_, rfl, hl, hz, hcell, hwz⟩⟩
theorem lenOf {H : Type} {enc : TypeId × Value → H} {P : Program} {W : World} {base : Nat} {spare : Nat → Bool} {held : Bool} {t e : TypeId} {a : Option Addr} {len cap : Nat} {d : DataW H} {ps : List MemPlace} {ts : List TypeId} {ds : List (DataW H)} {j : Nat}
    (hsz : (DataW.weightsEach P ts ds).all (· ≤ reachBytes) = true) (ht : ts[j]? = some t) (hd : ds[j]? = some d) (hu : P.underlying t = some (.slice e)) (he : P.underlying e = some (.int .u8)) (hc : P.cellsOf e = 1) (hB : P.bytesOf e = 1)
    (h : DataW.Trod enc P W base spare held t (.slice a len cap) d ps) : len ≤ 140737488351232 := by
  obtain ⟨fuel, hf⟩ := h
  rcases open_ints hu he hc hf with ⟨hcs, _⟩ | ⟨x, l, c, zs, hcs, _, hl, _, hz, hx, _, _⟩
  · simp [Value.cells] at hcs
    omega
  · simp [Value.cells] at hcs
    obtain ⟨rfl, rfl, rfl⟩ := hcs
    obtain ⟨hx, _⟩ := Prod.mk.inj hx
    subst hx
    have z := sized_slice hsz ht hd hu
    rw [hB] at z
    have hl2 : len ≤ zs.length := by
      rw [hz]
      split
      · exact hl
      · exact Nat.le_refl _
    simp only [lits, List.length_map, List.length_take, List.length_drop] at z
    have hr : reachBytes = 140737488351232 := rfl
    omega
end Go.Wt

/- Plays, as both have them. -/
set_option linter.unusedVariables false
set_option linter.unusedSimpArgs false
namespace Go.Proofs.YtmdhfalfppkpeaaGreat
open Go Go.Wt
/-- A play, with its answer. -/
def playR (bad : Int) (evs : List Evt) : Wrld × Bool := if within bad 0 4 && decide (evs.length ≤ 70) then (playF bad evs, true) else (Wrld.zero, false)
theorem big4 {w : Wrld} (h : w.nodes.length = 4) : w.nodes.length ≤ big := by rw [h]; decide
end Go.Proofs.YtmdhfalfppkpeaaGreat

/- The program's words for outsiders. -/
set_option linter.unusedVariables false
set_option linter.unusedSimpArgs false
namespace Go.Proofs.YtmdhfalfppkpeaaGreat
open Go Go.Wt
end Go.Proofs.YtmdhfalfppkpeaaGreat

/- Worlds in form; what happens in a world, for outsiders. -/
set_option linter.unusedVariables false
set_option linter.unusedSimpArgs false
namespace Go.Proofs.YtmdhfalfppkpeaaGreat
open Go Go.Wt
theorem shown_w_ct (v : Vote) (hO : Nat → Wt.Obj) (w : Wrld) (ho : hO 0 = .cell w) (hf : hO 9 = .free) (hH : ∀ o, obOk (pH hO) (hO o)) :
    Ct Tryz.prog 69 [.box 0 (IsLens.whole Wrld), .v v] hO (fun r1 h1 => r1 = .v (shownB w v) ∧ h1 = hO) := by
  refine Ct.intro Tryz.func69 rfl rfl ?_
  all_goals refine awp_seq (awp_region (id := 0) ?_)
  all_goals refine awpOps_cons (op_box (o := 9) ty48 rfl (Conv.of rfl) hf rfl) ?_
  all_goals refine awpOps_cons (op_as rfl (Conv.of rfl) rfl) ?_
  all_goals refine awpOps_nil ?_
  all_goals refine awp_seq (dr_start (id := 1) ?_)
  all_goals refine dr_cons (op_fab f48_0 rfl rfl) ?_
  all_goals refine dr_cons (op_ld ty3 rfl rfl rfl) ?_
  all_goals refine dr_cons (op_mv rfl (Conv.of rfl) rfl) ?_
  all_goals refine dr_cons (op_nilc_box rfl rfl) ?_
  all_goals refine dr_cons (op_fab f29_3 rfl rfl) ?_
  all_goals refine dr_cons (op_ld ty3 rfl ho rfl) ?_
  all_goals refine dr_cons (op_eql rfl rfl rfl) ?_
  all_goals refine dr_cons (op_mv rfl (Conv.of rfl) rfl) ?_
  all_goals refine dr_split (t := 12) rfl (fun h => ?_) (fun h => ?_)
  all_goals first | refine dr_cons (g_off rfl rfl rfl rfl rfl) ?_ | refine dr_cons (g_on rfl rfl rfl (op_mv rfl (Conv.of rfl) rfl)) ?_
  all_goals first | refine dr_cons (g_off rfl rfl rfl rfl rfl) ?_ | refine dr_cons (g_on rfl rfl rfl (op_nilc_box rfl rfl)) ?_
  all_goals first | refine dr_cons (g_off rfl rfl rfl rfl rfl) ?_ | refine dr_cons (g_on rfl rfl rfl (op_fab f29_2 rfl rfl)) ?_
  all_goals first | refine dr_cons (g_off rfl rfl rfl rfl rfl) ?_ | refine dr_cons (g_on rfl rfl rfl (op_ld ty27 rfl ho rfl)) ?_
  all_goals first | refine dr_cons (g_off rfl rfl rfl rfl rfl) ?_ | refine dr_cons (g_on rfl rfl rfl (op_ld ty48 rfl rfl rfl)) ?_
  all_goals first | refine dr_cons (g_off rfl rfl rfl rfl rfl) ?_ | refine dr_cons (g_on rfl rfl rfl (op_call fb120 (.cons rfl (Conv.of rfl) (.cons rfl (Conv.of rfl) (.nil _))) (has_ct _ _) (argOk rfl rfl (argOk rfl rfl argOk0)) rfl rfl)) ?_
  all_goals refine dr_cons (op_pick rfl rfl rfl rfl) ?_
  all_goals refine dr_cons (op_as rfl (Conv.of rfl) rfl) ?_
  all_goals refine dr_nil mixed rfl ?_
  all_goals refine awp_ret ?_
  all_goals refine finF (.v rfl (Conv.of rfl)) rfl ?_ (by intro o ho; by_cases e : o = 9 <;> first | (exfalso; subst e; rw [hf] at ho; exact absurd ho (by decide)) | simp only [st0, St.upd, lk, orr, if_neg e]) hH
  all_goals (simp_all [FV.av, shownB])
theorem okFn_ct (v : Vote) (hO : Nat → Wt.Obj) (w : Wrld) (ho : hO 0 = .cell w) (hf : hO 8 = .free) (hf9 : hO 9 = .free) (hH : ∀ o, obOk (pH hO) (hO o)) :
    Ct Tryz.prog 85 [.v v, .box 0 (IsLens.whole Wrld)] hO (fun r1 h1 => r1 = .v (!shownB w v) ∧ h1 = hO) := by
  refine Ct.intro Tryz.func85 rfl rfl ?_
  all_goals refine awp_seq (awp_region (id := 0) ?_)
  all_goals refine awpOps_cons (op_box (o := 8) ty48 rfl (Conv.of rfl) hf rfl) ?_
  all_goals refine awpOps_cons (op_as rfl (Conv.of rfl) rfl) ?_
  all_goals refine awpOps_nil ?_
  have hH' : ∀ o, obOk (pH (fun o => orr (lk [(8, Wt.Obj.cell v)] o) (hO o))) (orr (lk [(8, Wt.Obj.cell v)] o) (hO o)) := fun o => by
    by_cases e : o = 8
    · subst e; exact plain_refs _
    · have := hH o
      simp only [lk, if_neg e, orr]
      cases hx : hO o with
      | free => trivial
      | dead => trivial
      | cell x =>
        rw [hx] at this
        intro o' h'
        have h2 := this o' h'
        unfold pH at h2 ⊢
        by_cases e' : o' = 8
        · subst e'; rfl
        · simpa [lk, e', orr] using h2
      | arr xs =>
        rw [hx] at this
        intro x hx' o' h'
        have h2 := this x hx' o' h'
        unfold pH at h2 ⊢
        by_cases e' : o' = 8
        · subst e'; rfl
        · simpa [lk, e', orr] using h2
  all_goals refine awp_seq (awp_region (id := 1) ?_)
  all_goals refine awpOps_cons (op_ld ty48 rfl rfl rfl) ?_
  all_goals refine awpOps_callH (h := fun o => orr (lk [(8, Wt.Obj.cell v)] o) (hO o)) rfl (fb69) (.cons rfl (Conv.of rfl) (.cons rfl (Conv.of rfl) (.nil _))) rfl (shown_w_ct v _ w (by simpa [lk, orr] using ho) (by simpa [lk, orr] using hf9) hH') (Hand.none (Hand.l1 ⟨rfl, fun o ho' => by simp [AV.refs] at ho'; subst ho'; simp [pH, lk, orr, ho, isFree]⟩ (Hand.l1 (Hand.of rfl rfl) Hand.l0))) hH' rfl rfl ?_
  all_goals refine awpOps_cons (op_not rfl rfl) ?_
  all_goals refine awpOps_cons (op_as rfl (Conv.of rfl) rfl) ?_
  all_goals refine awpOps_nil ?_
  all_goals refine awp_ret ?_
  all_goals refine finF (.v rfl (Conv.of rfl)) rfl rfl (by intro o ho'; by_cases e : o = 8 <;> first | (exfalso; subst e; rw [hf] at ho'; exact absurd ho' (by decide)) | simp only [st0, St.upd, lk, orr, if_neg e]) hH
set_option maxHeartbeats 2000000 in
theorem worldOk_ct (w : Wrld) : CtP Tryz.prog 30 [.v w] (.v (worldOk w)) := by
  refine Ct.intro Tryz.func30 rfl rfl ?_
  all_goals refine awp_seq (awp_region (id := 0) ?_)
  all_goals refine awpOps_cons (op_box (o := 0) ty29 rfl (Conv.of rfl) rfl rfl) ?_
  all_goals refine awpOps_cons (op_as rfl (Conv.of rfl) rfl) ?_
  all_goals refine awpOps_nil ?_
  refine awp_seq (awp_seq_to (s' := mkSt 63 [(1, .box 0 (IsLens.whole Wrld)), (32, .v (!worldOk0 w))] [(0, .cell w)]) ?_ ?_)
  · all_goals refine awp_region (id := 1) ?_
    all_goals refine awpOps_cons (op_fab f29_0 rfl rfl) ?_
    all_goals refine awpOps_cons (op_ld ty3 rfl rfl rfl) ?_
    all_goals refine awpOps_cons (op_call fb83 (.cons rfl (Conv.of rfl) (.cons rfl (Conv.of rfl) (.cons rfl (Conv.of rfl) (.nil _)))) (within_ct _ _ _) (argOk rfl rfl (argOk rfl rfl (argOk rfl rfl argOk0))) rfl rfl) ?_
    all_goals refine awpOps_cons (op_not rfl rfl) ?_
    all_goals refine awpOps_cons (op_mv rfl (Conv.of rfl) rfl) ?_
    all_goals refine g_split (t := 9) rfl (fun h => ?_) (fun h => ?_)
    all_goals first | refine awpOps_cons (g_off rfl rfl rfl rfl rfl) ?_ | refine awpOps_cons (g_on rfl rfl rfl (op_fab f29_3 rfl rfl)) ?_
    all_goals first | refine awpOps_cons (g_off rfl rfl rfl rfl rfl) ?_ | refine awpOps_cons (g_on rfl rfl rfl (op_ld ty3 rfl rfl rfl)) ?_
    all_goals first | refine awpOps_cons (g_off rfl rfl rfl rfl rfl) ?_ | refine awpOps_cons (g_on rfl rfl rfl (op_call fb83 (.cons rfl (Conv.of rfl) (.cons rfl (Conv.of rfl) (.cons rfl (Conv.of rfl) (.nil _)))) (within_ct _ _ _) (argOk rfl rfl (argOk rfl rfl (argOk rfl rfl argOk0))) rfl rfl)) ?_
    all_goals first | refine awpOps_cons (g_off rfl rfl rfl rfl rfl) ?_ | refine awpOps_cons (g_on rfl rfl rfl (op_not rfl rfl)) ?_
    all_goals refine awpOps_cons (op_pick rfl rfl rfl rfl) ?_
    all_goals refine awpOps_cons (op_mv rfl (Conv.of rfl) rfl) ?_
    all_goals first | refine g_lit (t := 15) (b := true) rfl ?_ | refine g_split (t := 15) rfl (fun h => ?_) (fun h => ?_)
    all_goals first | refine awpOps_cons (g_off rfl rfl rfl rfl rfl) ?_ | refine awpOps_cons (g_on rfl rfl rfl (op_fab f29_1 rfl rfl)) ?_
    all_goals first | refine awpOps_cons (g_off rfl rfl rfl rfl rfl) ?_ | refine awpOps_cons (g_on rfl rfl rfl (op_ld ty26 rfl rfl rfl)) ?_
    all_goals first | refine awpOps_cons (g_off rfl rfl rfl rfl rfl) ?_ | refine awpOps_cons (g_on rfl rfl rfl (op_len sl26 rfl rfl)) ?_
    all_goals first | refine awpOps_cons (g_off rfl rfl rfl rfl rfl) ?_ | refine awpOps_cons (g_on rfl rfl rfl (op_neq rfl rfl rfl)) ?_
    all_goals refine awpOps_cons (op_pick rfl rfl rfl rfl) ?_
    all_goals refine awpOps_cons (op_mv rfl (Conv.of rfl) rfl) ?_
    all_goals first | refine g_lit (t := 21) (b := true) rfl ?_ | refine g_split (t := 21) rfl (fun h => ?_) (fun h => ?_)
    all_goals first | refine awpOps_cons (g_off rfl rfl rfl rfl rfl) ?_ | refine awpOps_cons (g_on rfl rfl rfl (op_fab f29_2 rfl rfl)) ?_
    all_goals first | refine awpOps_cons (g_off rfl rfl rfl rfl rfl) ?_ | refine awpOps_cons (g_on rfl rfl rfl (op_ld ty27 rfl rfl rfl)) ?_
    all_goals first | refine awpOps_cons (g_off rfl rfl rfl rfl rfl) ?_ | refine awpOps_cons (g_on rfl rfl rfl (op_len sl27 rfl rfl)) ?_
    all_goals first | refine awpOps_cons (g_off rfl rfl rfl rfl rfl) ?_ | refine awpOps_cons (g_on rfl rfl rfl (op_gtr rfl rfl rfl)) ?_
    all_goals refine awpOps_cons (op_pick rfl rfl rfl rfl) ?_
    all_goals refine awpOps_cons (op_mv rfl (Conv.of rfl) rfl) ?_
    all_goals first | refine g_lit (t := 27) (b := true) rfl ?_ | refine g_split (t := 27) rfl (fun h => ?_) (fun h => ?_)
    all_goals first | refine awpOps_cons (g_off rfl rfl rfl rfl rfl) ?_ | refine awpOps_cons (g_on rfl rfl rfl (op_fab f29_2 rfl rfl)) ?_
    all_goals first | refine awpOps_cons (g_off rfl rfl rfl rfl rfl) ?_ | refine awpOps_cons (g_on rfl rfl rfl (op_ld ty27 rfl rfl rfl)) ?_
    all_goals first | refine awpOps_cons (g_off rfl rfl rfl rfl rfl) ?_ | refine awpOps_cons (g_on rfl rfl rfl (op_call fb59 (.cons rfl (Conv.of rfl) (.nil _)) (votesOk_ct _) (argOk rfl rfl argOk0) rfl rfl)) ?_
    all_goals first | refine awpOps_cons (g_off rfl rfl rfl rfl rfl) ?_ | refine awpOps_cons (g_on rfl rfl rfl (op_not rfl rfl)) ?_
    all_goals refine awpOps_cons (op_pick rfl rfl rfl rfl) ?_
    all_goals refine awpOps_nil ?_
    all_goals exact Le.mk rfl (tlb rfl rfl rfl (tle rfl (by (simp_all [worldOk0] <;> omega)) rfl tln)) (olk rfl (by exact obOk_cell) oln) noS
  refine awp_cond rfl (fun h => ?_) (fun h => ?_)
  · all_goals refine awp_seq (awp_region (id := 2) ?_)
    all_goals refine awpOps_cons (op_as rfl (Conv.of rfl) rfl) ?_
    all_goals refine awpOps_nil ?_
    refine awp_ret ?_
    repeat first | refine rt_seq ?_ | refine rt_block ?_
    refine finP (.v rfl (Conv.of rfl)) rfl ?_
    show AV.v false = _
    simp [worldOk, not_t h]
  · have h0 := not_f h
    have heq : worldOk w = nodesOkFrom w w.nodes 0 := by rw [worldOk, h0, Bool.true_and]
    refine awp_skip ?_
    all_goals refine awp_seq (awp_seq (awp_region (id := 3) ?_))
    all_goals refine awpOps_cons (op_fab f29_1 rfl rfl) ?_
    all_goals refine awpOps_cons (op_ld ty26 rfl rfl rfl) ?_
    refine awpOps_bigL 34 rfl (fun hB => ?_)
    all_goals refine awpOps_cons (op_len sl26 rfl rfl) ?_
    all_goals refine awpOps_cons (op_mv rfl (Conv.of rfl) rfl) ?_
    all_goals refine awpOps_nil ?_
    refine awp_block ?_
    refine awp_loop' (fun n_ s => ∃ (k : Nat), ∃ (hn : n_ + k = w.nodes.length), ∃ (hall : worldOk w = nodesOkFrom w (w.nodes.drop k) k), s = mkSt 63 [(1, .box 0 (IsLens.whole Wrld)), (34, .v w.nodes), (35, .v (w.nodes.length : Int)), (36, .v (k : Int))] [(0, .cell w)]) (w.nodes.length) ⟨0, by omega, heq, rfl⟩ (Le.mk rfl (tlb rfl rfl rfl (tle rfl (rfl) rfl (tle rfl (rfl) rfl (tle rfl (rfl) rfl tln)))) (olk rfl (by exact obOk_cell) oln) noS) ?_
    rintro n_ s ⟨k, hn, hall, rfl⟩
    all_goals refine awp_seq (awp_region (id := 4) ?_)
    all_goals refine awpOps_cons (op_lss rfl rfl rfl) ?_
    all_goals refine awpOps_nil ?_
    refine awp_seq (awp_cond rfl (fun h => ?_) (fun h => ?_))
    · have hlt : k < w.nodes.length := by simpa using h
      have hx : w.nodes[k]? = some w.nodes[k] := List.getElem?_eq_getElem hlt
      generalize w.nodes[k] = a at hx
      have hs := nodesOk_drop (w := w) hx
      refine awp_skip ?_
      refine awp_seq (awp_block ?_)
      all_goals refine awp_seq (awp_region (id := 5) ?_)
      all_goals refine awpOps_cons (op_mv rfl (Conv.of rfl) rfl) ?_
      all_goals refine awpOps_cons (op_ix sl26 rfl rfl rfl (by omega) hx) ?_
      all_goals refine awpOps_cons (op_ldr ty41 rfl rfl) ?_
      all_goals refine awpOps_cons (op_alloc (o := 1) z41 rfl rfl) ?_
      all_goals refine awpOps_cons (op_as rfl (Conv.of rfl) rfl) ?_
      all_goals refine awpOps_cons (op_st ty41 rfl rfl (Conv.of rfl) rfl) ?_
      all_goals refine awpOps_nil ?_
      refine awp_seq (awp_seq_to (s' := mkSt 63 [(1, .box 0 (IsLens.whole Wrld)), (4, .box 1 (IsLens.whole Nod)), (34, .v w.nodes), (35, .v (w.nodes.length : Int)), (36, .v (k : Int)), (57, .v (!(nodeOk a && decide (a.id = (k : Int) + 1) && decide (a.epoch = w.epoch))))] [(0, .cell w), (1, .cell a)]) ?_ ?_)
      · all_goals refine awp_region (id := 6) ?_
        all_goals refine awpOps_cons (op_ld ty41 rfl rfl rfl) ?_
        all_goals refine awpOps_cons (op_call fb84 (.cons rfl (Conv.of rfl) (.nil _)) (nodeOk_ct _) (argOk rfl rfl argOk0) rfl rfl) ?_
        all_goals refine awpOps_cons (op_not rfl rfl) ?_
        all_goals refine awpOps_cons (op_mv rfl (Conv.of rfl) rfl) ?_
        all_goals refine g_split (t := 44) rfl (fun h => ?_) (fun h => ?_)
        all_goals first | refine awpOps_cons (g_off rfl rfl rfl rfl rfl) ?_ | refine awpOps_cons (g_on rfl rfl rfl (op_fab f41_0 rfl rfl)) ?_
        all_goals first | refine awpOps_cons (g_off rfl rfl rfl rfl rfl) ?_ | refine awpOps_cons (g_on rfl rfl rfl (op_ld ty3 rfl rfl rfl)) ?_
        all_goals first | refine awpOps_cons (g_off rfl rfl rfl rfl rfl) ?_ | refine awpOps_cons (g_on rfl rfl rfl (op_mv rfl (Conv.of rfl) rfl)) ?_
        all_goals first | refine awpOps_cons (g_off rfl rfl rfl rfl rfl) ?_ | refine awpOps_cons (g_on rfl rfl rfl (op_add rfl rfl rfl (by omega))) ?_
        all_goals first | refine awpOps_cons (g_off rfl rfl rfl rfl rfl) ?_ | refine awpOps_cons (g_on rfl rfl rfl (op_neq rfl rfl rfl)) ?_
        all_goals refine awpOps_cons (op_pick rfl rfl rfl rfl) ?_
        all_goals refine awpOps_cons (op_mv rfl (Conv.of rfl) rfl) ?_
        all_goals first | refine g_lit (t := 51) (b := true) rfl ?_ | refine g_split (t := 51) rfl (fun h => ?_) (fun h => ?_)
        all_goals first | refine awpOps_cons (g_off rfl rfl rfl rfl rfl) ?_ | refine awpOps_cons (g_on rfl rfl rfl (op_fab f41_1 rfl rfl)) ?_
        all_goals first | refine awpOps_cons (g_off rfl rfl rfl rfl rfl) ?_ | refine awpOps_cons (g_on rfl rfl rfl (op_ld ty3 rfl rfl rfl)) ?_
        all_goals first | refine awpOps_cons (g_off rfl rfl rfl rfl rfl) ?_ | refine awpOps_cons (g_on rfl rfl rfl (op_fab f29_0 rfl rfl)) ?_
        all_goals first | refine awpOps_cons (g_off rfl rfl rfl rfl rfl) ?_ | refine awpOps_cons (g_on rfl rfl rfl (op_ld ty3 rfl rfl rfl)) ?_
        all_goals first | refine awpOps_cons (g_off rfl rfl rfl rfl rfl) ?_ | refine awpOps_cons (g_on rfl rfl rfl (op_neq rfl rfl rfl)) ?_
        all_goals refine awpOps_cons (op_pick rfl rfl rfl rfl) ?_
        all_goals refine awpOps_nil ?_
        all_goals exact Le.mk rfl (tlb rfl rfl rfl (tlb rfl rfl rfl (tle rfl (rfl) rfl (tle rfl (rfl) rfl (tle rfl (rfl) rfl (tle rfl (by (simp_all; try rfl)) rfl tln)))))) (olk rfl (by exact obOk_cell) (olk rfl (by exact obOk_cell) oln)) noS
      refine awp_cond rfl (fun h2 => ?_) (fun h2 => ?_)
      · all_goals refine awp_seq (awp_region (id := 7) ?_)
        all_goals refine awpOps_cons (op_as rfl (Conv.of rfl) rfl) ?_
        all_goals refine awpOps_nil ?_
        refine awp_ret ?_
        repeat first | refine rt_seq ?_ | refine rt_block ?_
        refine finP (.v rfl (Conv.of rfl)) rfl ?_
        show AV.v false = _
        rw [hall, hs, nodeIn, not_t h2, Bool.false_and, Bool.false_and]
      · have h2' := not_f h2
        refine awp_skip ?_
        all_goals refine awp_seq (awp_region (id := 8) ?_)
        all_goals refine awpOps_cons (op_fab f41_3 rfl rfl) ?_
        all_goals refine awpOps_cons (op_ld ty27 rfl rfl rfl) ?_
        all_goals refine awpOps_cons (op_mf (f := 85) .nil (.cons (r := .box 0 (IsLens.whole Wrld)) rfl (Conv.of rfl) .nil) rfl) ?_
        all_goals refine awpOps_callH rfl (fb67) (.cons rfl (Conv.of rfl) (.cons rfl (Conv.of rfl) (.nil _))) rfl (containsV_ct _ _ [] [.box 0 (IsLens.whole Wrld)] _ (fun v => !shownB w v) (fb85) (fun x hx => okFn_ct x _ w rfl rfl rfl (fun o => by by_cases e : o = 0 <;> by_cases e1 : o = 1 <;> simp [mkSt, st0, St.upd, lk, lk0, orr, e, e1, obOk, noObj] <;> exact plain_refs _)) (by intro z hz; simp [avs, FV.av] at hz; subst hz; exact ⟨rfl, fun o ho => by simp [AV.refs] at ho; subst ho; rfl⟩) (fun o => by by_cases e : o = 0 <;> by_cases e1 : o = 1 <;> simp [mkSt, st0, St.upd, lk, lk0, orr, e, e1, obOk, noObj] <;> exact plain_refs _)) (Hand.none (Hand.l1 (Hand.of rfl rfl) (Hand.l1 ⟨rfl, fun o ho => by simp [AV.refs, FV.refs] at ho; subst ho; rfl⟩ Hand.l0))) (fun o => by by_cases e : o = 0 <;> by_cases e1 : o = 1 <;> simp [mkSt, st0, St.upd, lk, lk0, orr, e, e1, obOk, noObj] <;> exact plain_refs _) rfl rfl ?_
        all_goals refine awpOps_nil ?_
        refine awp_cond rfl (fun h3 => ?_) (fun h3 => ?_)
        · all_goals refine awp_seq (awp_region (id := 9) ?_)
          all_goals refine awpOps_cons (op_as rfl (Conv.of rfl) rfl) ?_
          all_goals refine awpOps_nil ?_
          refine awp_ret ?_
          repeat first | refine rt_seq ?_ | refine rt_block ?_
          refine finP (.v rfl (Conv.of rfl)) rfl ?_
          show AV.v false = _
          rw [hall, hs, nodeIn, h3, Bool.not_true, Bool.and_false, Bool.false_and]
        · refine awp_skip ?_
          all_goals refine awp_region (id := 10) ?_
          all_goals refine awpOps_cons (op_add rfl rfl rfl (by omega)) ?_
          all_goals refine awpOps_cons (op_mv rfl (Conv.of rfl) rfl) ?_
          all_goals refine awpOps_nil ?_
          repeat first | refine nx_seq ?_ | refine nx_block ?_
          exact ⟨n_ - 1, _, by omega, ⟨k + 1, by omega, by rw [hall, hs, nodeIn, h2', h3]; rfl, rfl⟩, Le.mk rfl (tlb rfl rfl rfl (tle rfl (rfl) rfl (tle rfl (rfl) rfl (tle rfl (rfl) rfl tln)))) (olk rfl (by exact obOk_cell) oln) noS⟩
    · refine awp_exit ?_
      repeat refine ex_seq ?_
      refine ex_block ?_
      have hk : w.nodes.length ≤ k := by simpa using h
      all_goals refine awp_seq (awp_region (id := 11) ?_)
      all_goals refine awpOps_cons (op_as rfl (Conv.of rfl) rfl) ?_
      all_goals refine awpOps_nil ?_
      refine awp_ret ?_
      repeat first | refine rt_seq ?_ | refine rt_block ?_
      refine finP (.v rfl (Conv.of rfl)) rfl ?_
      show AV.v true = _
      rw [hall, drop_end hk]; rfl
def worldDoR (w : Wrld) (e : Evt) : Wrld := if worldOk w then doF w e else Wrld.zero
end Go.Proofs.YtmdhfalfppkpeaaGreat

/- The reference: votes, nodes and worlds in form; copies. -/
set_option linter.unusedVariables false
set_option linter.unusedSimpArgs false
namespace Go.Proofs.YtmdhfalfppkpeaaGreat
open Go Go.Wt
theorem sVotesOk_ct (l : List Vote) : CtP Tryz.prog 81 [.v l] (.v (votesOk l)) := by
  refine Ct.intro Tryz.func81 rfl rfl ?_
  refine awp_bigL 0 rfl (fun hB => ?_)
  all_goals refine awp_seq (awp_region (id := 0) ?_)
  all_goals refine awpOps_cons (op_as rfl (Conv.of rfl) rfl) ?_
  all_goals refine awpOps_nil ?_
  all_goals refine awp_seq (awp_seq (awp_region (id := 1) ?_))
  all_goals refine awpOps_cons (op_as rfl (Conv.of rfl) rfl) ?_
  all_goals refine awpOps_nil ?_
  refine awp_block ?_
  refine awp_loop' (fun n_ s => ∃ (k : Nat), ∃ (hn : n_ + k = l.length), ∃ (hall : votesOk l = votesOkFrom (l.take k) (l.drop k)), s = mkSt 26 [(0, .v l), (3, .v (k : Int))] []) (l.length) ⟨0, by omega, rfl, rfl⟩ (Le.mk rfl (tle rfl (rfl) rfl (tle rfl (rfl) rfl tln)) oln noS) ?_
  rintro n_ s ⟨k, hn, hall, rfl⟩
  all_goals refine awp_seq (awp_seq (awp_region (id := 2) ?_))
  all_goals refine awpOps_cons (op_mv rfl (Conv.of rfl) rfl) ?_
  all_goals refine awpOps_cons (op_mv rfl (Conv.of rfl) rfl) ?_
  all_goals refine awpOps_cons (op_len sl27 rfl rfl) ?_
  all_goals refine awpOps_cons (op_lss rfl rfl rfl) ?_
  all_goals refine awpOps_nil ?_
  refine awp_cond rfl (fun h => ?_) (fun h => ?_)
  · have hlt : k < l.length := by simpa using h
    have hx : l[k]? = some l[k] := List.getElem?_eq_getElem hlt
    generalize l[k] = x at hx
    have hs := votesOk_drop hx
    refine awp_skip ?_
    refine awp_seq (awp_block ?_)
    refine awp_seq_to (s' := mkSt 26 [(0, .v l), (3, .v (k : Int)), (25, .v (!(voteOk x && !decide (x ∈ l.take k))))] []) ?_ ?_
    · all_goals refine dr_start (id := 4) ?_
      all_goals refine dr_cons (op_mv rfl (Conv.of rfl) rfl) ?_
      all_goals refine dr_cons (op_mv rfl (Conv.of rfl) rfl) ?_
      all_goals refine dr_cons (op_ix sl27 rfl rfl rfl (by omega) hx) ?_
      all_goals refine dr_cons (op_ldr ty48 rfl rfl) ?_
      all_goals refine dr_cons (op_call fb118 (.cons rfl (Conv.of rfl) (.nil _)) (l3Vote_ct _) (argOk rfl rfl argOk0) rfl rfl) ?_
      all_goals refine dr_cons (op_not rfl rfl) ?_
      all_goals refine dr_cons (op_mv rfl (Conv.of rfl) rfl) ?_
      all_goals refine dr_split (t := 16) rfl (fun h => ?_) (fun h => ?_)
      all_goals first | refine dr_cons (g_off rfl rfl rfl rfl rfl) ?_ | refine dr_cons (g_on rfl rfl rfl (op_mv rfl (Conv.of rfl) rfl)) ?_
      all_goals first | refine dr_cons (g_off rfl rfl rfl rfl rfl) ?_ | refine dr_cons (g_on rfl rfl rfl (op_mv rfl (Conv.of rfl) rfl)) ?_
      all_goals first | refine dr_cons (g_off rfl rfl rfl rfl rfl) ?_ | refine dr_cons (g_on rfl rfl rfl (op_slh sl27 rfl rfl rfl ⟨by omega, by omega⟩)) ?_
      all_goals first | refine dr_cons (g_off rfl rfl rfl rfl rfl) ?_ | refine dr_cons (g_on rfl rfl rfl (op_mv rfl (Conv.of rfl) rfl)) ?_
      all_goals first | refine dr_cons (g_off rfl rfl rfl rfl rfl) ?_ | refine dr_cons (g_on rfl rfl rfl (op_mv rfl (Conv.of rfl) rfl)) ?_
      all_goals first | refine dr_cons (g_off rfl rfl rfl rfl rfl) ?_ | refine dr_cons (g_on rfl rfl rfl (op_ix sl27 rfl rfl rfl (by omega) hx)) ?_
      all_goals first | refine dr_cons (g_off rfl rfl rfl rfl rfl) ?_ | refine dr_cons (g_on rfl rfl rfl (op_ldr ty48 rfl rfl)) ?_
      all_goals first | refine dr_cons (g_off rfl rfl rfl rfl rfl) ?_ | refine dr_cons (g_on rfl rfl rfl (op_call fb132 (.cons rfl (Conv.of rfl) (.cons rfl (Conv.of rfl) (.nil _))) (l3Has_ct _ _) (argOk rfl rfl (argOk rfl rfl argOk0)) rfl rfl)) ?_
      all_goals refine dr_cons (op_pick rfl rfl rfl rfl) ?_
      all_goals refine dr_nil mixed rfl ?_
      all_goals exact Le.mk rfl (tle rfl (rfl) rfl (tle rfl (rfl) rfl (tle rfl (by (clear hall hs; simp_all)) rfl tln))) oln noS
    refine awp_cond rfl (fun h => ?_) (fun h => ?_)
    · all_goals refine awp_seq (awp_region (id := 5) ?_)
      all_goals refine awpOps_cons (op_as rfl (Conv.of rfl) rfl) ?_
      all_goals refine awpOps_nil ?_
      refine awp_ret ?_
      repeat first | refine rt_seq ?_ | refine rt_block ?_
      refine finP (.v rfl (Conv.of rfl)) rfl ?_
      show AV.v false = _
      rw [hall, hs, not_t h, Bool.false_and]
    · refine awp_skip ?_
      all_goals refine awp_region (id := 3) ?_
      all_goals refine awpOps_cons (op_mv rfl (Conv.of rfl) rfl) ?_
      all_goals refine awpOps_cons (op_add rfl rfl rfl (by omega)) ?_
      all_goals refine awpOps_cons (op_as rfl (Conv.of rfl) rfl) ?_
      all_goals refine awpOps_nil ?_
      repeat first | refine nx_seq ?_ | refine nx_block ?_
      exact ⟨n_ - 1, _, by omega, ⟨k + 1, by omega, by rw [hall, hs, not_f h, Bool.true_and], rfl⟩, Le.mk rfl (tle rfl (rfl) rfl (tle rfl (rfl) rfl tln)) oln noS⟩
  · refine awp_exit ?_
    repeat refine ex_seq ?_
    refine ex_block ?_
    have hk : l.length ≤ k := by simpa using h
    all_goals refine awp_seq (awp_region (id := 6) ?_)
    all_goals refine awpOps_cons (op_as rfl (Conv.of rfl) rfl) ?_
    all_goals refine awpOps_nil ?_
    refine awp_ret ?_
    repeat first | refine rt_seq ?_ | refine rt_block ?_
    refine finP (.v rfl (Conv.of rfl)) rfl ?_
    show AV.v true = _
    rw [hall, drop_end hk]; rfl
set_option maxHeartbeats 4000000 in
theorem sNodeOk_ct (n : Nod) : CtP Tryz.prog 42 [.v n] (.v (nodeOk n)) := by
  refine Ct.intro Tryz.func42 rfl rfl ?_
  all_goals refine awp_seq (awp_region (id := 0) ?_)
  all_goals refine awpOps_cons (op_box (o := 0) ty41 rfl (Conv.of rfl) rfl rfl) ?_
  all_goals refine awpOps_cons (op_as rfl (Conv.of rfl) rfl) ?_
  all_goals refine awpOps_nil ?_
  refine awp_seq (awp_seq_to (s' := mkSt 66 [(1, .box 0 (IsLens.whole Nod)), (34, .v (!nodeOk0 n))] [(0, .cell n)]) ?_ ?_)
  · all_goals refine awp_region (id := 1) ?_
    all_goals refine awpOps_cons (op_fab f41_0 rfl rfl) ?_
    all_goals refine awpOps_cons (op_ld ty3 rfl rfl rfl) ?_
    all_goals refine awpOps_cons (op_call fb80 (.cons rfl (Conv.of rfl) (.cons rfl (Conv.of rfl) (.cons rfl (Conv.of rfl) (.nil _)))) (l6In_ct _ _ _) (argOk rfl rfl (argOk rfl rfl (argOk rfl rfl argOk0))) rfl rfl) ?_
    all_goals refine awpOps_cons (op_not rfl rfl) ?_
    all_goals refine awpOps_cons (op_mv rfl (Conv.of rfl) rfl) ?_
    all_goals refine g_split (t := 9) rfl (fun h => ?_) (fun h => ?_)
    all_goals first | refine awpOps_cons (g_off rfl rfl rfl rfl rfl) ?_ | refine awpOps_cons (g_on rfl rfl rfl (op_fab f41_1 rfl rfl)) ?_
    all_goals first | refine awpOps_cons (g_off rfl rfl rfl rfl rfl) ?_ | refine awpOps_cons (g_on rfl rfl rfl (op_ld ty3 rfl rfl rfl)) ?_
    all_goals first | refine awpOps_cons (g_off rfl rfl rfl rfl rfl) ?_ | refine awpOps_cons (g_on rfl rfl rfl (op_call fb80 (.cons rfl (Conv.of rfl) (.cons rfl (Conv.of rfl) (.cons rfl (Conv.of rfl) (.nil _)))) (l6In_ct _ _ _) (argOk rfl rfl (argOk rfl rfl (argOk rfl rfl argOk0))) rfl rfl)) ?_
    all_goals first | refine awpOps_cons (g_off rfl rfl rfl rfl rfl) ?_ | refine awpOps_cons (g_on rfl rfl rfl (op_not rfl rfl)) ?_
    all_goals refine awpOps_cons (op_pick rfl rfl rfl rfl) ?_
    all_goals refine awpOps_cons (op_mv rfl (Conv.of rfl) rfl) ?_
    all_goals first | refine g_lit (t := 15) (b := true) rfl ?_ | refine g_split (t := 15) rfl (fun h => ?_) (fun h => ?_)
    all_goals first | refine awpOps_cons (g_off rfl rfl rfl rfl rfl) ?_ | refine awpOps_cons (g_on rfl rfl rfl (op_fab f41_2 rfl rfl)) ?_
    all_goals first | refine awpOps_cons (g_off rfl rfl rfl rfl rfl) ?_ | refine awpOps_cons (g_on rfl rfl rfl (op_ld ty3 rfl rfl rfl)) ?_
    all_goals first | refine awpOps_cons (g_off rfl rfl rfl rfl rfl) ?_ | refine awpOps_cons (g_on rfl rfl rfl (op_fab f41_1 rfl rfl)) ?_
    all_goals first | refine awpOps_cons (g_off rfl rfl rfl rfl rfl) ?_ | refine awpOps_cons (g_on rfl rfl rfl (op_ld ty3 rfl rfl rfl)) ?_
    all_goals first | refine awpOps_cons (g_off rfl rfl rfl rfl rfl) ?_ | refine awpOps_cons (g_on rfl rfl rfl (op_call fb80 (.cons rfl (Conv.of rfl) (.cons rfl (Conv.of rfl) (.cons rfl (Conv.of rfl) (.nil _)))) (l6In_ct _ _ _) (argOk rfl rfl (argOk rfl rfl (argOk rfl rfl argOk0))) rfl rfl)) ?_
    all_goals first | refine awpOps_cons (g_off rfl rfl rfl rfl rfl) ?_ | refine awpOps_cons (g_on rfl rfl rfl (op_not rfl rfl)) ?_
    all_goals refine awpOps_cons (op_pick rfl rfl rfl rfl) ?_
    all_goals refine awpOps_cons (op_mv rfl (Conv.of rfl) rfl) ?_
    all_goals first | refine g_lit (t := 23) (b := true) rfl ?_ | refine g_split (t := 23) rfl (fun h => ?_) (fun h => ?_)
    all_goals first | refine awpOps_cons (g_off rfl rfl rfl rfl rfl) ?_ | refine awpOps_cons (g_on rfl rfl rfl (op_fab f41_3 rfl rfl)) ?_
    all_goals first | refine awpOps_cons (g_off rfl rfl rfl rfl rfl) ?_ | refine awpOps_cons (g_on rfl rfl rfl (op_ld ty27 rfl rfl rfl)) ?_
    all_goals first | refine awpOps_cons (g_off rfl rfl rfl rfl rfl) ?_ | refine awpOps_cons (g_on rfl rfl rfl (op_len sl27 rfl rfl)) ?_
    all_goals first | refine awpOps_cons (g_off rfl rfl rfl rfl rfl) ?_ | refine awpOps_cons (g_on rfl rfl rfl (op_gtr rfl rfl rfl)) ?_
    all_goals refine awpOps_cons (op_pick rfl rfl rfl rfl) ?_
    all_goals refine awpOps_cons (op_mv rfl (Conv.of rfl) rfl) ?_
    all_goals first | refine g_lit (t := 29) (b := true) rfl ?_ | refine g_split (t := 29) rfl (fun h => ?_) (fun h => ?_)
    all_goals first | refine awpOps_cons (g_off rfl rfl rfl rfl rfl) ?_ | refine awpOps_cons (g_on rfl rfl rfl (op_fab f41_3 rfl rfl)) ?_
    all_goals first | refine awpOps_cons (g_off rfl rfl rfl rfl rfl) ?_ | refine awpOps_cons (g_on rfl rfl rfl (op_ld ty27 rfl rfl rfl)) ?_
    all_goals first | refine awpOps_cons (g_off rfl rfl rfl rfl rfl) ?_ | refine awpOps_cons (g_on rfl rfl rfl (op_call fb81 (.cons rfl (Conv.of rfl) (.nil _)) (sVotesOk_ct _) (argOk rfl rfl argOk0) rfl rfl)) ?_
    all_goals first | refine awpOps_cons (g_off rfl rfl rfl rfl rfl) ?_ | refine awpOps_cons (g_on rfl rfl rfl (op_not rfl rfl)) ?_
    all_goals refine awpOps_cons (op_pick rfl rfl rfl rfl) ?_
    all_goals refine awpOps_nil ?_
    all_goals exact Le.mk rfl (tlb rfl rfl rfl (tle rfl (by (show AV.v _ = AV.v _; unfold nodeOk0; simp_all; try omega)) rfl tln)) (olk rfl (by exact obOk_cell) oln) noS
  refine awp_cond rfl (fun h => ?_) (fun h => ?_)
  · all_goals refine awp_seq (awp_region (id := 2) ?_)
    all_goals refine awpOps_cons (op_as rfl (Conv.of rfl) rfl) ?_
    all_goals refine awpOps_nil ?_
    refine awp_ret ?_
    repeat first | refine rt_seq ?_ | refine rt_block ?_
    refine finP (.v rfl (Conv.of rfl)) rfl ?_
    show AV.v false = _
    rw [nodeOk, not_t h]; rfl
  · have h0 := not_f h
    have h0' := h0
    simp only [nodeOk0, Bool.and_eq_true] at h0'
    have hvo := votesOk_mem h0'.2
    have hall0 : nodeOk n = !(n.seen.any (late n)) := by rw [nodeOk, h0, Bool.true_and]
    refine awp_skip ?_
    all_goals refine awp_seq (awp_seq (awp_region (id := 3) ?_))
    all_goals refine awpOps_cons (op_as rfl (Conv.of rfl) rfl) ?_
    all_goals refine awpOps_nil ?_
    refine awp_block ?_
    refine awp_loop' (fun n_ s => ∃ (k : Nat), ∃ (hn : n_ + k = n.seen.length), ∃ (hall : nodeOk n = !((n.seen.drop k).any (late n))), s = mkSt 66 [(1, .box 0 (IsLens.whole Nod)), (3, .v (k : Int))] [(0, .cell n)]) (n.seen.length) ⟨0, by omega, hall0, rfl⟩ (Le.mk rfl (tlb rfl rfl rfl (tle rfl (rfl) rfl tln)) (olk rfl (by exact obOk_cell) oln) noS) ?_
    rintro n_ s ⟨k, hn, hall, rfl⟩
    all_goals refine awp_seq (awp_seq (awp_region (id := 4) ?_))
    all_goals refine awpOps_cons (op_mv rfl (Conv.of rfl) rfl) ?_
    all_goals refine awpOps_cons (op_fab f41_3 rfl rfl) ?_
    all_goals refine awpOps_cons (op_ld ty27 rfl rfl rfl) ?_
    refine awpOps_bigL 37 rfl (fun hB => ?_)
    all_goals refine awpOps_cons (op_len sl27 rfl rfl) ?_
    all_goals refine awpOps_cons (op_lss rfl rfl rfl) ?_
    all_goals refine awpOps_nil ?_
    refine awp_cond rfl (fun h => ?_) (fun h => ?_)
    · have hlt : k < n.seen.length := by simpa using h
      have hx : n.seen[k]? = some n.seen[k] := List.getElem?_eq_getElem hlt
      generalize n.seen[k] = x at hx
      have hp := voteOk_pos (hvo x (List.mem_of_getElem? hx))
      have hcl := chainOk_len (voteOk_chain (hvo x (List.mem_of_getElem? hx)))
      have hd := drop_at hx
      have hy : x.chain[((x.chain.length : Int) - 1).toNat]? = some (x.chain[x.chain.length - 1]'(by omega)) := by
        rw [show ((x.chain.length : Int) - 1).toNat = x.chain.length - 1 by omega]; exact List.getElem?_eq_getElem (by omega)
      have hle : lastEp x.chain = (x.chain[x.chain.length - 1]'(by omega)).epoch := lastEp_get (List.getElem?_eq_getElem (by omega))
      generalize x.chain[x.chain.length - 1]'(by omega) = y at hy hle
      have hlate : late n x = (decide (x.by_ = n.id) && decide (n.voted < y.epoch)) := by unfold late; rw [hle]
      refine awp_skip ?_
      refine awp_seq (awp_block ?_)
      all_goals refine awp_seq (awp_region (id := 6) ?_)
      all_goals refine awpOps_cons (op_fab f41_3 rfl rfl) ?_
      all_goals refine awpOps_cons (op_ld ty27 rfl rfl rfl) ?_
      all_goals refine awpOps_cons (op_mv rfl (Conv.of rfl) rfl) ?_
      all_goals refine awpOps_cons (op_ix sl27 rfl rfl rfl (by omega) hx) ?_
      all_goals refine awpOps_cons (op_ldr ty48 rfl rfl) ?_
      all_goals refine awpOps_cons (op_alloc (o := 1) z48 rfl rfl) ?_
      all_goals refine awpOps_cons (op_st ty48 rfl rfl (Conv.of rfl) rfl) ?_
      all_goals refine awpOps_nil ?_
      refine awp_seq_to (s' := mkSt 66 [(1, .box 0 (IsLens.whole Nod)), (3, .v (k : Int)), (65, .v (late n x))] [(0, .cell n)]) ?_ ?_
      · all_goals refine dr_start (id := 7) ?_
        all_goals refine dr_cons (op_fab f48_0 rfl rfl) ?_
        all_goals refine dr_cons (op_ld ty3 rfl rfl rfl) ?_
        all_goals refine dr_cons (op_fab f41_0 rfl rfl) ?_
        all_goals refine dr_cons (op_ld ty3 rfl rfl rfl) ?_
        all_goals refine dr_cons (op_eql rfl rfl rfl) ?_
        all_goals refine dr_cons (op_mv rfl (Conv.of rfl) rfl) ?_
        all_goals refine dr_split (t := 52) rfl (fun h => ?_) (fun h => ?_)
        all_goals first | refine dr_cons (g_off rfl rfl rfl rfl rfl) ?_ | refine dr_cons (g_on rfl rfl rfl (op_fab f48_1 rfl rfl)) ?_
        all_goals first | refine dr_cons (g_off rfl rfl rfl rfl rfl) ?_ | refine dr_cons (g_on rfl rfl rfl (op_ld ty34 rfl rfl rfl)) ?_
        all_goals first | refine dr_cons (g_off rfl rfl rfl rfl rfl) ?_ | refine dr_cons (g_on rfl rfl rfl (op_fab f48_1 rfl rfl)) ?_
        all_goals first | refine dr_cons (g_off rfl rfl rfl rfl rfl) ?_ | refine dr_cons (g_on rfl rfl rfl (op_ld ty34 rfl rfl rfl)) ?_
        all_goals first | refine dr_cons (g_off rfl rfl rfl rfl rfl) ?_ | refine dr_cons (g_on rfl rfl rfl (op_len sl34 rfl rfl)) ?_
        all_goals first | refine dr_cons (g_off rfl rfl rfl rfl rfl) ?_ | refine dr_cons (g_on rfl rfl rfl (op_sub rfl rfl rfl (by omega))) ?_
        all_goals first | refine dr_cons (g_off rfl rfl rfl rfl rfl) ?_ | refine dr_cons (g_on rfl rfl rfl (op_ix sl34 rfl rfl rfl (by omega) hy)) ?_
        all_goals first | refine dr_cons (g_off rfl rfl rfl rfl rfl) ?_ | refine dr_cons (g_on rfl rfl rfl (op_far f60_0 rfl rfl)) ?_
        all_goals first | refine dr_cons (g_off rfl rfl rfl rfl rfl) ?_ | refine dr_cons (g_on rfl rfl rfl (op_ldr ty3 rfl rfl)) ?_
        all_goals first | refine dr_cons (g_off rfl rfl rfl rfl rfl) ?_ | refine dr_cons (g_on rfl rfl rfl (op_fab f41_2 rfl rfl)) ?_
        all_goals first | refine dr_cons (g_off rfl rfl rfl rfl rfl) ?_ | refine dr_cons (g_on rfl rfl rfl (op_ld ty3 rfl rfl rfl)) ?_
        all_goals first | refine dr_cons (g_off rfl rfl rfl rfl rfl) ?_ | refine dr_cons (g_on rfl rfl rfl (op_gtr rfl rfl rfl)) ?_
        all_goals refine dr_cons (op_pick rfl rfl rfl rfl) ?_
        all_goals refine dr_nil mixed rfl ?_
        all_goals exact Le.mk rfl (tlb rfl rfl rfl (tle rfl (rfl) rfl (tle rfl (by (show AV.v _ = AV.v _; rw [hlate]; clear hall hd hall0; simp_all)) rfl tln))) (olk rfl (by exact obOk_cell) oln) noS
      refine awp_cond rfl (fun h2 => ?_) (fun h2 => ?_)
      · all_goals refine awp_seq (awp_region (id := 8) ?_)
        all_goals refine awpOps_cons (op_as rfl (Conv.of rfl) rfl) ?_
        all_goals refine awpOps_nil ?_
        refine awp_ret ?_
        repeat first | refine rt_seq ?_ | refine rt_block ?_
        refine finP (.v rfl (Conv.of rfl)) rfl ?_
        show AV.v false = _
        rw [hall, hd, List.any_cons, h2]; rfl
      · refine awp_skip ?_
        all_goals refine awp_region (id := 5) ?_
        all_goals refine awpOps_cons (op_mv rfl (Conv.of rfl) rfl) ?_
        all_goals refine awpOps_cons (op_add rfl rfl rfl (by omega)) ?_
        all_goals refine awpOps_cons (op_as rfl (Conv.of rfl) rfl) ?_
        all_goals refine awpOps_nil ?_
        repeat first | refine nx_seq ?_ | refine nx_block ?_
        exact ⟨n_ - 1, _, by omega, ⟨k + 1, by omega, by rw [hall, hd, List.any_cons, h2, Bool.false_or], rfl⟩, Le.mk rfl (tlb rfl rfl rfl (tle rfl (rfl) rfl tln)) (olk rfl (by exact obOk_cell) oln) noS⟩
    · refine awp_exit ?_
      repeat refine ex_seq ?_
      refine ex_block ?_
      have hk : n.seen.length ≤ k := by simpa using h
      all_goals refine awp_seq (awp_region (id := 9) ?_)
      all_goals refine awpOps_cons (op_as rfl (Conv.of rfl) rfl) ?_
      all_goals refine awpOps_nil ?_
      refine awp_ret ?_
      repeat first | refine rt_seq ?_ | refine rt_block ?_
      refine finP (.v rfl (Conv.of rfl)) rfl ?_
      show AV.v true = _
      rw [hall, drop_end hk]; rfl
theorem l21All_ct (w : Wrld) (l : List Vote) : CtP Tryz.prog 82 [.v w, .v l] (.v (!(l.any fun v => !shownB w v))) := by
  refine Ct.intro Tryz.func82 rfl rfl ?_
  refine awp_bigL 1 rfl (fun hB => ?_)
  all_goals refine awp_seq (awp_region (id := 0) ?_)
  all_goals refine awpOps_cons (op_box (o := 0) ty29 rfl (Conv.of rfl) rfl rfl) ?_
  all_goals refine awpOps_cons (op_as rfl (Conv.of rfl) rfl) ?_
  all_goals refine awpOps_nil ?_
  all_goals refine awp_seq (awp_seq (awp_region (id := 1) ?_))
  all_goals refine awpOps_cons (op_as rfl (Conv.of rfl) rfl) ?_
  all_goals refine awpOps_nil ?_
  refine awp_block ?_
  refine awp_loop' (fun n_ s => ∃ (k : Nat), ∃ (hn : n_ + k = l.length), ∃ (hall : (l.any fun v => !shownB w v) = ((l.drop k).any fun v => !shownB w v)), s = mkSt 30 [(1, .v l), (2, .box 0 (IsLens.whole Wrld)), (5, .v (k : Int))] [(0, .cell w)]) (l.length) ⟨0, by omega, rfl, rfl⟩ (Le.mk rfl (tle rfl (rfl) rfl (tlb rfl rfl rfl (tle rfl (rfl) rfl tln))) (olk rfl (by exact obOk_cell) oln) noS) ?_
  rintro n_ s ⟨k, hn, hall, rfl⟩
  all_goals refine awp_seq (awp_seq (awp_region (id := 2) ?_))
  all_goals refine awpOps_cons (op_mv rfl (Conv.of rfl) rfl) ?_
  all_goals refine awpOps_cons (op_mv rfl (Conv.of rfl) rfl) ?_
  all_goals refine awpOps_cons (op_len sl27 rfl rfl) ?_
  all_goals refine awpOps_cons (op_lss rfl rfl rfl) ?_
  all_goals refine awpOps_nil ?_
  refine awp_cond rfl (fun h => ?_) (fun h => ?_)
  · have hlt : k < l.length := by simpa using h
    have hx : l[k]? = some l[k] := List.getElem?_eq_getElem hlt
    generalize l[k] = x at hx
    have hd := drop_at hx
    refine awp_skip ?_
    refine awp_seq (awp_block ?_)
    refine awp_seq_to (s' := mkSt 30 [(1, .v l), (2, .box 0 (IsLens.whole Wrld)), (5, .v (k : Int)), (29, .v (!shownB w x))] [(0, .cell w)]) ?_ ?_
    · all_goals refine dr_start (id := 4) ?_
      all_goals refine dr_cons (op_mv rfl (Conv.of rfl) rfl) ?_
      all_goals refine dr_cons (op_mv rfl (Conv.of rfl) rfl) ?_
      all_goals refine dr_cons (op_ix sl27 rfl rfl rfl (by omega) hx) ?_
      all_goals refine dr_cons (op_far f48_0 rfl rfl) ?_
      all_goals refine dr_cons (op_ldr ty3 rfl rfl) ?_
      all_goals refine dr_cons (op_fab f29_3 rfl rfl) ?_
      all_goals refine dr_cons (op_ld ty3 rfl rfl rfl) ?_
      all_goals refine dr_cons (op_neq rfl rfl rfl) ?_
      all_goals refine dr_cons (op_mv rfl (Conv.of rfl) rfl) ?_
      all_goals refine dr_split (t := 20) rfl (fun h => ?_) (fun h => ?_)
      all_goals first | refine dr_cons (g_off rfl rfl rfl rfl rfl) ?_ | refine dr_cons (g_on rfl rfl rfl (op_fab f29_2 rfl rfl)) ?_
      all_goals first | refine dr_cons (g_off rfl rfl rfl rfl rfl) ?_ | refine dr_cons (g_on rfl rfl rfl (op_ld ty27 rfl rfl rfl)) ?_
      all_goals first | refine dr_cons (g_off rfl rfl rfl rfl rfl) ?_ | refine dr_cons (g_on rfl rfl rfl (op_mv rfl (Conv.of rfl) rfl)) ?_
      all_goals first | refine dr_cons (g_off rfl rfl rfl rfl rfl) ?_ | refine dr_cons (g_on rfl rfl rfl (op_mv rfl (Conv.of rfl) rfl)) ?_
      all_goals first | refine dr_cons (g_off rfl rfl rfl rfl rfl) ?_ | refine dr_cons (g_on rfl rfl rfl (op_ix sl27 rfl rfl rfl (by omega) hx)) ?_
      all_goals first | refine dr_cons (g_off rfl rfl rfl rfl rfl) ?_ | refine dr_cons (g_on rfl rfl rfl (op_ldr ty48 rfl rfl)) ?_
      all_goals first | refine dr_cons (g_off rfl rfl rfl rfl rfl) ?_ | refine dr_cons (g_on rfl rfl rfl (op_call fb132 (.cons rfl (Conv.of rfl) (.cons rfl (Conv.of rfl) (.nil _))) (l3Has_ct _ _) (argOk rfl rfl (argOk rfl rfl argOk0)) rfl rfl)) ?_
      all_goals first | refine dr_cons (g_off rfl rfl rfl rfl rfl) ?_ | refine dr_cons (g_on rfl rfl rfl (op_not rfl rfl)) ?_
      all_goals refine dr_cons (op_pick rfl rfl rfl rfl) ?_
      all_goals refine dr_nil mixed rfl ?_
      all_goals exact Le.mk rfl (tle rfl (rfl) rfl (tlb rfl rfl rfl (tle rfl (rfl) rfl (tle rfl (by (show AV.v _ = AV.v _; unfold shownB; clear hall hd; simp_all)) rfl tln)))) (olk rfl (by exact obOk_cell) oln) noS
    refine awp_cond rfl (fun h2 => ?_) (fun h2 => ?_)
    · all_goals refine awp_seq (awp_region (id := 5) ?_)
      all_goals refine awpOps_cons (op_as rfl (Conv.of rfl) rfl) ?_
      all_goals refine awpOps_nil ?_
      refine awp_ret ?_
      repeat first | refine rt_seq ?_ | refine rt_block ?_
      refine finP (.v rfl (Conv.of rfl)) rfl ?_
      show AV.v false = _
      rw [hall, hd, List.any_cons, h2]; rfl
    · refine awp_skip ?_
      all_goals refine awp_region (id := 3) ?_
      all_goals refine awpOps_cons (op_mv rfl (Conv.of rfl) rfl) ?_
      all_goals refine awpOps_cons (op_add rfl rfl rfl (by omega)) ?_
      all_goals refine awpOps_cons (op_as rfl (Conv.of rfl) rfl) ?_
      all_goals refine awpOps_nil ?_
      repeat first | refine nx_seq ?_ | refine nx_block ?_
      exact ⟨n_ - 1, _, by omega, ⟨k + 1, by omega, by rw [hall, hd, List.any_cons, h2, Bool.false_or], rfl⟩, Le.mk rfl (tle rfl (rfl) rfl (tlb rfl rfl rfl (tle rfl (rfl) rfl tln))) (olk rfl (by exact obOk_cell) oln) noS⟩
  · refine awp_exit ?_
    repeat refine ex_seq ?_
    refine ex_block ?_
    have hk : l.length ≤ k := by simpa using h
    all_goals refine awp_seq (awp_region (id := 6) ?_)
    all_goals refine awpOps_cons (op_as rfl (Conv.of rfl) rfl) ?_
    all_goals refine awpOps_nil ?_
    refine awp_ret ?_
    repeat first | refine rt_seq ?_ | refine rt_block ?_
    refine finP (.v rfl (Conv.of rfl)) rfl ?_
    show AV.v true = _
    rw [hall, drop_end hk]; rfl
set_option maxHeartbeats 4000000 in
theorem sWorldOk_ct (w : Wrld) : CtP Tryz.prog 29 [.v w] (.v (worldOk w)) := by
  refine Ct.intro Tryz.func29 rfl rfl ?_
  all_goals refine awp_seq (awp_region (id := 0) ?_)
  all_goals refine awpOps_cons (op_box (o := 0) ty29 rfl (Conv.of rfl) rfl rfl) ?_
  all_goals refine awpOps_cons (op_as rfl (Conv.of rfl) rfl) ?_
  all_goals refine awpOps_nil ?_
  refine awp_seq (awp_seq_to (s' := mkSt 69 [(1, .box 0 (IsLens.whole Wrld)), (32, .v (!worldOk0 w))] [(0, .cell w)]) ?_ ?_)
  · all_goals refine awp_region (id := 1) ?_
    all_goals refine awpOps_cons (op_fab f29_0 rfl rfl) ?_
    all_goals refine awpOps_cons (op_ld ty3 rfl rfl rfl) ?_
    all_goals refine awpOps_cons (op_call fb80 (.cons rfl (Conv.of rfl) (.cons rfl (Conv.of rfl) (.cons rfl (Conv.of rfl) (.nil _)))) (l6In_ct _ _ _) (argOk rfl rfl (argOk rfl rfl (argOk rfl rfl argOk0))) rfl rfl) ?_
    all_goals refine awpOps_cons (op_not rfl rfl) ?_
    all_goals refine awpOps_cons (op_mv rfl (Conv.of rfl) rfl) ?_
    all_goals refine g_split (t := 9) rfl (fun h => ?_) (fun h => ?_)
    all_goals first | refine awpOps_cons (g_off rfl rfl rfl rfl rfl) ?_ | refine awpOps_cons (g_on rfl rfl rfl (op_fab f29_3 rfl rfl)) ?_
    all_goals first | refine awpOps_cons (g_off rfl rfl rfl rfl rfl) ?_ | refine awpOps_cons (g_on rfl rfl rfl (op_ld ty3 rfl rfl rfl)) ?_
    all_goals first | refine awpOps_cons (g_off rfl rfl rfl rfl rfl) ?_ | refine awpOps_cons (g_on rfl rfl rfl (op_call fb80 (.cons rfl (Conv.of rfl) (.cons rfl (Conv.of rfl) (.cons rfl (Conv.of rfl) (.nil _)))) (l6In_ct _ _ _) (argOk rfl rfl (argOk rfl rfl (argOk rfl rfl argOk0))) rfl rfl)) ?_
    all_goals first | refine awpOps_cons (g_off rfl rfl rfl rfl rfl) ?_ | refine awpOps_cons (g_on rfl rfl rfl (op_not rfl rfl)) ?_
    all_goals refine awpOps_cons (op_pick rfl rfl rfl rfl) ?_
    all_goals refine awpOps_cons (op_mv rfl (Conv.of rfl) rfl) ?_
    all_goals first | refine g_lit (t := 15) (b := true) rfl ?_ | refine g_split (t := 15) rfl (fun h => ?_) (fun h => ?_)
    all_goals first | refine awpOps_cons (g_off rfl rfl rfl rfl rfl) ?_ | refine awpOps_cons (g_on rfl rfl rfl (op_fab f29_1 rfl rfl)) ?_
    all_goals first | refine awpOps_cons (g_off rfl rfl rfl rfl rfl) ?_ | refine awpOps_cons (g_on rfl rfl rfl (op_ld ty26 rfl rfl rfl)) ?_
    all_goals first | refine awpOps_cons (g_off rfl rfl rfl rfl rfl) ?_ | refine awpOps_cons (g_on rfl rfl rfl (op_len sl26 rfl rfl)) ?_
    all_goals first | refine awpOps_cons (g_off rfl rfl rfl rfl rfl) ?_ | refine awpOps_cons (g_on rfl rfl rfl (op_neq rfl rfl rfl)) ?_
    all_goals refine awpOps_cons (op_pick rfl rfl rfl rfl) ?_
    all_goals refine awpOps_cons (op_mv rfl (Conv.of rfl) rfl) ?_
    all_goals first | refine g_lit (t := 21) (b := true) rfl ?_ | refine g_split (t := 21) rfl (fun h => ?_) (fun h => ?_)
    all_goals first | refine awpOps_cons (g_off rfl rfl rfl rfl rfl) ?_ | refine awpOps_cons (g_on rfl rfl rfl (op_fab f29_2 rfl rfl)) ?_
    all_goals first | refine awpOps_cons (g_off rfl rfl rfl rfl rfl) ?_ | refine awpOps_cons (g_on rfl rfl rfl (op_ld ty27 rfl rfl rfl)) ?_
    all_goals first | refine awpOps_cons (g_off rfl rfl rfl rfl rfl) ?_ | refine awpOps_cons (g_on rfl rfl rfl (op_len sl27 rfl rfl)) ?_
    all_goals first | refine awpOps_cons (g_off rfl rfl rfl rfl rfl) ?_ | refine awpOps_cons (g_on rfl rfl rfl (op_gtr rfl rfl rfl)) ?_
    all_goals refine awpOps_cons (op_pick rfl rfl rfl rfl) ?_
    all_goals refine awpOps_cons (op_mv rfl (Conv.of rfl) rfl) ?_
    all_goals first | refine g_lit (t := 27) (b := true) rfl ?_ | refine g_split (t := 27) rfl (fun h => ?_) (fun h => ?_)
    all_goals first | refine awpOps_cons (g_off rfl rfl rfl rfl rfl) ?_ | refine awpOps_cons (g_on rfl rfl rfl (op_fab f29_2 rfl rfl)) ?_
    all_goals first | refine awpOps_cons (g_off rfl rfl rfl rfl rfl) ?_ | refine awpOps_cons (g_on rfl rfl rfl (op_ld ty27 rfl rfl rfl)) ?_
    all_goals first | refine awpOps_cons (g_off rfl rfl rfl rfl rfl) ?_ | refine awpOps_cons (g_on rfl rfl rfl (op_call fb81 (.cons rfl (Conv.of rfl) (.nil _)) (sVotesOk_ct _) (argOk rfl rfl argOk0) rfl rfl)) ?_
    all_goals first | refine awpOps_cons (g_off rfl rfl rfl rfl rfl) ?_ | refine awpOps_cons (g_on rfl rfl rfl (op_not rfl rfl)) ?_
    all_goals refine awpOps_cons (op_pick rfl rfl rfl rfl) ?_
    all_goals refine awpOps_nil ?_
    all_goals exact Le.mk rfl (tlb rfl rfl rfl (tle rfl (by (show AV.v _ = AV.v _; unfold worldOk0; simp_all; try omega)) rfl tln)) (olk rfl (by exact obOk_cell) oln) noS
  refine awp_cond rfl (fun h => ?_) (fun h => ?_)
  · all_goals refine awp_seq (awp_region (id := 2) ?_)
    all_goals refine awpOps_cons (op_as rfl (Conv.of rfl) rfl) ?_
    all_goals refine awpOps_nil ?_
    refine awp_ret ?_
    repeat first | refine rt_seq ?_ | refine rt_block ?_
    refine finP (.v rfl (Conv.of rfl)) rfl ?_
    show AV.v false = _
    simp [worldOk, not_t h]
  · have h0 := not_f h
    have heq : worldOk w = nodesOkFrom w w.nodes 0 := by rw [worldOk, h0, Bool.true_and]
    have h04 : w.nodes.length = 4 := by have := h0; simp only [worldOk0, Bool.and_eq_true, decide_eq_true_eq] at this; exact this.1.1.2
    refine awp_skip ?_
    all_goals refine awp_seq (awp_seq (awp_region (id := 3) ?_))
    all_goals refine awpOps_cons (op_as rfl (Conv.of rfl) rfl) ?_
    all_goals refine awpOps_nil ?_
    refine awp_block ?_
    refine awp_loop' (fun n_ s => ∃ (k : Nat), ∃ (hn : n_ + k = 4), ∃ (hall : worldOk w = nodesOkFrom w (w.nodes.drop k) k), s = mkSt 69 [(1, .box 0 (IsLens.whole Wrld)), (3, .v (k : Int))] [(0, .cell w)]) (4) ⟨0, by omega, heq, rfl⟩ (Le.mk rfl (tlb rfl rfl rfl (tle rfl (rfl) rfl tln)) (olk rfl (by exact obOk_cell) oln) noS) ?_
    rintro n_ s ⟨k, hn, hall, rfl⟩
    all_goals refine awp_seq (awp_seq (awp_region (id := 4) ?_))
    all_goals refine awpOps_cons (op_mv rfl (Conv.of rfl) rfl) ?_
    all_goals refine awpOps_cons (op_fab f29_1 rfl rfl) ?_
    all_goals refine awpOps_cons (op_ld ty26 rfl rfl rfl) ?_
    all_goals refine awpOps_cons (op_len sl26 rfl rfl) ?_
    all_goals refine awpOps_cons (op_lss rfl rfl rfl) ?_
    all_goals refine awpOps_nil ?_
    refine awp_cond rfl (fun h => ?_) (fun h => ?_)
    · have hlt : k < w.nodes.length := by simpa using h
      have hx : w.nodes[k]? = some w.nodes[k] := List.getElem?_eq_getElem hlt
      generalize w.nodes[k] = a at hx
      have hs := nodesOk_drop (w := w) hx
      refine awp_skip ?_
      refine awp_seq (awp_block ?_)
      all_goals refine awp_seq (awp_region (id := 6) ?_)
      all_goals refine awpOps_cons (op_fab f29_1 rfl rfl) ?_
      all_goals refine awpOps_cons (op_ld ty26 rfl rfl rfl) ?_
      all_goals refine awpOps_cons (op_mv rfl (Conv.of rfl) rfl) ?_
      all_goals refine awpOps_cons (op_ix sl26 rfl rfl rfl (by omega) hx) ?_
      all_goals refine awpOps_cons (op_ldr ty41 rfl rfl) ?_
      all_goals refine awpOps_cons (op_alloc (o := 1) z41 rfl rfl) ?_
      all_goals refine awpOps_cons (op_st ty41 rfl rfl (Conv.of rfl) rfl) ?_
      all_goals refine awpOps_nil ?_
      refine awp_seq_to (s' := mkSt 69 [(1, .box 0 (IsLens.whole Wrld)), (3, .v (k : Int)), (68, .v (!nodeIn w k a))] [(0, .cell w)]) ?_ ?_
      · all_goals refine awp_region (id := 7) ?_
        all_goals refine awpOps_cons (op_ld ty41 rfl rfl rfl) ?_
        all_goals refine awpOps_cons (op_call fb42 (.cons rfl (Conv.of rfl) (.nil _)) (sNodeOk_ct _) (argOk rfl rfl argOk0) rfl rfl) ?_
        all_goals refine awpOps_cons (op_not rfl rfl) ?_
        all_goals refine awpOps_cons (op_mv rfl (Conv.of rfl) rfl) ?_
        all_goals refine g_split (t := 48) rfl (fun h => ?_) (fun h => ?_)
        all_goals first | refine awpOps_cons (g_off rfl rfl rfl rfl rfl) ?_ | refine awpOps_cons (g_on rfl rfl rfl (op_fab f41_0 rfl rfl)) ?_
        all_goals first | refine awpOps_cons (g_off rfl rfl rfl rfl rfl) ?_ | refine awpOps_cons (g_on rfl rfl rfl (op_ld ty3 rfl rfl rfl)) ?_
        all_goals first | refine awpOps_cons (g_off rfl rfl rfl rfl rfl) ?_ | refine awpOps_cons (g_on rfl rfl rfl (op_mv rfl (Conv.of rfl) rfl)) ?_
        all_goals first | refine awpOps_cons (g_off rfl rfl rfl rfl rfl) ?_ | refine awpOps_cons (g_on rfl rfl rfl (op_add rfl rfl rfl (by omega))) ?_
        all_goals first | refine awpOps_cons (g_off rfl rfl rfl rfl rfl) ?_ | refine awpOps_cons (g_on rfl rfl rfl (op_neq rfl rfl rfl)) ?_
        all_goals refine awpOps_cons (op_pick rfl rfl rfl rfl) ?_
        all_goals refine awpOps_cons (op_mv rfl (Conv.of rfl) rfl) ?_
        all_goals first | refine g_lit (t := 55) (b := true) rfl ?_ | refine g_split (t := 55) rfl (fun h => ?_) (fun h => ?_)
        all_goals first | refine awpOps_cons (g_off rfl rfl rfl rfl rfl) ?_ | refine awpOps_cons (g_on rfl rfl rfl (op_fab f41_1 rfl rfl)) ?_
        all_goals first | refine awpOps_cons (g_off rfl rfl rfl rfl rfl) ?_ | refine awpOps_cons (g_on rfl rfl rfl (op_ld ty3 rfl rfl rfl)) ?_
        all_goals first | refine awpOps_cons (g_off rfl rfl rfl rfl rfl) ?_ | refine awpOps_cons (g_on rfl rfl rfl (op_fab f29_0 rfl rfl)) ?_
        all_goals first | refine awpOps_cons (g_off rfl rfl rfl rfl rfl) ?_ | refine awpOps_cons (g_on rfl rfl rfl (op_ld ty3 rfl rfl rfl)) ?_
        all_goals first | refine awpOps_cons (g_off rfl rfl rfl rfl rfl) ?_ | refine awpOps_cons (g_on rfl rfl rfl (op_neq rfl rfl rfl)) ?_
        all_goals refine awpOps_cons (op_pick rfl rfl rfl rfl) ?_
        all_goals refine awpOps_cons (op_mv rfl (Conv.of rfl) rfl) ?_
        all_goals first | refine g_lit (t := 62) (b := true) rfl ?_ | refine g_split (t := 62) rfl (fun h => ?_) (fun h => ?_)
        all_goals first | refine awpOps_cons (g_off rfl rfl rfl rfl rfl) ?_ | refine awpOps_cons (g_on rfl rfl rfl (op_ld ty29 rfl rfl rfl)) ?_
        all_goals first | refine awpOps_cons (g_off rfl rfl rfl rfl rfl) ?_ | refine awpOps_cons (g_on rfl rfl rfl (op_fab f41_3 rfl rfl)) ?_
        all_goals first | refine awpOps_cons (g_off rfl rfl rfl rfl rfl) ?_ | refine awpOps_cons (g_on rfl rfl rfl (op_ld ty27 rfl rfl rfl)) ?_
        all_goals first | refine awpOps_cons (g_off rfl rfl rfl rfl rfl) ?_ | refine awpOps_cons (g_on rfl rfl rfl (op_call fb82 (.cons rfl (Conv.of rfl) (.cons rfl (Conv.of rfl) (.nil _))) (l21All_ct _ _) (argOk rfl rfl (argOk rfl rfl argOk0)) rfl rfl)) ?_
        all_goals first | refine awpOps_cons (g_off rfl rfl rfl rfl rfl) ?_ | refine awpOps_cons (g_on rfl rfl rfl (op_not rfl rfl)) ?_
        all_goals refine awpOps_cons (op_pick rfl rfl rfl rfl) ?_
        all_goals refine awpOps_nil ?_
        all_goals exact Le.mk rfl (tlb rfl rfl rfl (tle rfl (rfl) rfl (tle rfl (by (show AV.v _ = AV.v _; unfold nodeIn; clear hall hs; simp_all)) rfl tln))) (olk rfl (by exact obOk_cell) oln) noS
      refine awp_cond rfl (fun h2 => ?_) (fun h2 => ?_)
      · all_goals refine awp_seq (awp_region (id := 8) ?_)
        all_goals refine awpOps_cons (op_as rfl (Conv.of rfl) rfl) ?_
        all_goals refine awpOps_nil ?_
        refine awp_ret ?_
        repeat first | refine rt_seq ?_ | refine rt_block ?_
        refine finP (.v rfl (Conv.of rfl)) rfl ?_
        show AV.v false = _
        rw [hall, hs, not_t h2, Bool.false_and]
      · refine awp_skip ?_
        all_goals refine awp_region (id := 5) ?_
        all_goals refine awpOps_cons (op_mv rfl (Conv.of rfl) rfl) ?_
        all_goals refine awpOps_cons (op_add rfl rfl rfl (by omega)) ?_
        all_goals refine awpOps_cons (op_as rfl (Conv.of rfl) rfl) ?_
        all_goals refine awpOps_nil ?_
        repeat first | refine nx_seq ?_ | refine nx_block ?_
        exact ⟨n_ - 1, _, by omega, ⟨k + 1, by omega, by rw [hall, hs, not_f h2, Bool.true_and], rfl⟩, Le.mk rfl (tlb rfl rfl rfl (tle rfl (rfl) rfl tln)) (olk rfl (by exact obOk_cell) oln) noS⟩
    · refine awp_exit ?_
      repeat refine ex_seq ?_
      refine ex_block ?_
      have hk : w.nodes.length ≤ k := by simpa using h
      all_goals refine awp_seq (awp_region (id := 9) ?_)
      all_goals refine awpOps_cons (op_as rfl (Conv.of rfl) rfl) ?_
      all_goals refine awpOps_nil ?_
      refine awp_ret ?_
      repeat first | refine rt_seq ?_ | refine rt_block ?_
      refine finP (.v rfl (Conv.of rfl)) rfl ?_
      show AV.v true = _
      rw [hall, drop_end hk]; rfl
theorem l3Copy_ct (l : List Vote) (hl : l.length ≤ 1000000) (hv : ∀ v ∈ l, v.chain.length ≤ 1000000) : CtP Tryz.prog 128 [.v l] (.v (OList.mk l true)) := by
  refine Ct.intro Tryz.func128 rfl rfl ?_
  all_goals refine awp_seq (awp_region (id := 0) ?_)
  all_goals refine awpOps_cons (op_as rfl (Conv.of rfl) rfl) ?_
  all_goals refine awpOps_nil ?_
  all_goals refine awp_seq (awp_region (id := 1) ?_)
  all_goals refine awpOps_cons (op_bsl sl27 z48 (.nil _) rfl (by decide) rfl) ?_
  all_goals refine awpOps_cons (op_asl rfl rfl rfl rfl) ?_
  all_goals refine awpOps_nil ?_
  all_goals refine awp_seq (awp_seq (awp_region (id := 2) ?_))
  all_goals refine awpOps_cons (op_as rfl (Conv.of rfl) rfl) ?_
  all_goals refine awpOps_nil ?_
  refine awp_block ?_
  refine awp_loop' (fun n_ s => ∃ (k : Nat), ∃ (hn : n_ + k = l.length), s = mkSt 21 [(0, .v l), (3, .v (OList.mk (l.take k) true)), (4, .v (k : Int))] []) (l.length) ⟨0, by omega, rfl⟩ (Le.mk rfl (tle rfl (rfl) rfl (tle rfl (by rfl) rfl (tle rfl (rfl) rfl tln))) oln noS) ?_
  rintro n_ s ⟨k, hn, rfl⟩
  all_goals refine awp_seq (awp_seq (awp_region (id := 3) ?_))
  all_goals refine awpOps_cons (op_mv rfl (Conv.of rfl) rfl) ?_
  all_goals refine awpOps_cons (op_mv rfl (Conv.of rfl) rfl) ?_
  all_goals refine awpOps_cons (op_len sl27 rfl rfl) ?_
  all_goals refine awpOps_cons (op_lss rfl rfl rfl) ?_
  all_goals refine awpOps_nil ?_
  refine awp_cond rfl (fun h => ?_) (fun h => ?_)
  · have hlt : k < l.length := by simpa using h
    have hx : l[k]? = some l[k] := List.getElem?_eq_getElem hlt
    have hvk := hv _ (List.getElem_mem hlt)
    generalize l[k] = x at hx hvk
    refine awp_skip ?_
    refine awp_seq (awp_block ?_)
    all_goals refine awp_region (id := 5) ?_
    all_goals refine awpOps_cons (op_mvl rfl rfl rfl rfl) ?_
    all_goals refine awpOps_cons (op_mv rfl (Conv.of rfl) rfl) ?_
    all_goals refine awpOps_cons (op_mv rfl (Conv.of rfl) rfl) ?_
    all_goals refine awpOps_cons (op_ix sl27 rfl rfl rfl (by omega) hx) ?_
    all_goals refine awpOps_cons (op_ldr ty48 rfl rfl) ?_
    all_goals refine awpOps_cons (op_call fb102 (.cons rfl (Conv.of rfl) (.nil _)) (l3VoteCopy_ct x hvk) (argOk rfl rfl argOk0) rfl rfl) ?_
    all_goals refine awpOps_cons (op_bsl sl27 z48 (.cons rfl (Conv.of rfl) (.nil _)) rfl (by decide) rfl) ?_
    all_goals refine awpOps_cons (op_app sl27 z48 ul27 rfl rfl rfl (by (simp; omega)) (by (simp; omega)) rfl rfl) ?_
    all_goals refine awpOps_cons (op_asl rfl rfl rfl rfl) ?_
    all_goals refine awpOps_nil ?_
    all_goals refine awp_region (id := 4) ?_
    all_goals refine awpOps_cons (op_mv rfl (Conv.of rfl) rfl) ?_
    all_goals refine awpOps_cons (op_add rfl rfl rfl (by omega)) ?_
    all_goals refine awpOps_cons (op_as rfl (Conv.of rfl) rfl) ?_
    all_goals refine awpOps_nil ?_
    repeat first | refine nx_seq ?_ | refine nx_block ?_
    exact ⟨n_ - 1, _, by omega, ⟨k + 1, by omega, rfl⟩, Le.mk rfl (tle rfl (rfl) rfl (tle rfl (by (rw [take_at hx])) rfl (tle rfl (rfl) rfl tln))) oln noS⟩
  · refine awp_exit ?_
    repeat refine ex_seq ?_
    refine ex_block ?_
    have hk : l.length ≤ k := by simpa using h
    all_goals refine awp_seq (awp_region (id := 6) ?_)
    all_goals refine awpOps_cons (op_mvl rfl rfl rfl rfl) ?_
    all_goals refine awpOps_cons (op_asl rfl rfl rfl rfl) ?_
    all_goals refine awpOps_nil ?_
    refine awp_ret ?_
    repeat first | refine rt_seq ?_ | refine rt_block ?_
    exact finM rfl rfl (by rw [take_end hk])
theorem l12Copy_ct (n : Nod) (hl : n.seen.length ≤ 1000000) (hv : ∀ v ∈ n.seen, v.chain.length ≤ 1000000) : CtP Tryz.prog 104 [.v n] (.v (sN n)) := by
  refine Ct.intro Tryz.func104 rfl rfl ?_
  all_goals refine awp_seq (awp_region (id := 0) ?_)
  all_goals refine awpOps_cons (op_box (o := 0) ty41 rfl (Conv.of rfl) rfl rfl) ?_
  all_goals refine awpOps_cons (op_alloc (o := 1) z41_NodS rfl rfl) ?_
  all_goals refine awpOps_nil ?_
  refine awp_recell (o := 0) (tb := 1) (β := NodS) (y := fN n) rfl rfl (fun G w ω cs h => nod_fN h) ?_
  all_goals refine awp_seq (awp_region (id := 1) ?_)
  all_goals refine awpOps_cons (op_fab f41_3_NodS rfl rfl) ?_
  all_goals refine awpOps_cons (op_ldl ty27_OListVote rfl rfl rfl) ?_
  all_goals refine awpOps_cons (op_call fb128 (.cons rfl (Conv.of rfl) (.nil _)) (l3Copy_ct n.seen hl hv) (argOk rfl rfl argOk0) rfl rfl) ?_
  all_goals refine awpOps_cons (op_fab f41_3_NodS rfl rfl) ?_
  all_goals refine awpOps_cons (op_stm ty27_OListVote rfl rfl rfl) ?_
  all_goals refine awpOps_nil ?_
  all_goals refine awp_seq (awp_region (id := 2) ?_)
  all_goals refine awpOps_cons (op_ldm ty41_NodS rfl rfl rfl) ?_
  all_goals refine awpOps_cons (op_stm ty41_NodS rfl rfl rfl) ?_
  all_goals refine awpOps_nil ?_
  refine awp_ret ?_
  repeat first | refine rt_seq ?_ | refine rt_block ?_
  exact ⟨_, _, res1C (ol := []) ty41_NodS rfl rfl (fun o ho => absurd (show o ∈ ([] : List Nat) from ho) (by simp)) oln noS, rfl, rfl⟩
end Go.Proofs.YtmdhfalfppkpeaaGreat

/- The reference: a world anew. -/
set_option linter.unusedVariables false
set_option linter.unusedSimpArgs false
namespace Go.Proofs.YtmdhfalfppkpeaaGreat
open Go Go.Wt
set_option maxHeartbeats 4000000 in
theorem l21Copy4_ct (e : Int) (a b c d : Nod) (l : List Vote) (bd : Int) (hl : Gd l) (ha : Gd a.seen) (hb : Gd b.seen) (hc : Gd c.seen) (hd : Gd d.seen) :
    Ct Tryz.prog 75 [.v (Wrld.mk e [a, b, c, d] l bd)] noObj (fun r1 h1 => r1 = .v (WrldS.mk e (.ref 1) ⟨l, true⟩ bd) ∧ h1 = obs [(1, .arr ([sN a, sN b, sN c, sN d] : List NodS))]) := by
  refine Ct.intro Tryz.func75 rfl rfl ?_
  all_goals refine awp_seq (awp_region (id := 0) ?_)
  all_goals refine awpOps_cons (op_box (o := 20) ty29 rfl (Conv.of rfl) rfl rfl) ?_
  all_goals refine awpOps_cons (op_alloc (o := 5) z29_WrldS rfl rfl) ?_
  all_goals refine awpOps_nil ?_
  all_goals refine awp_seq (dr_start (id := 1) ?_)
  all_goals refine dr_cons (op_fab f29_0 rfl rfl) ?_
  all_goals refine dr_cons (op_ld ty3 rfl rfl rfl) ?_
  all_goals refine dr_cons (op_fab f29_2 rfl rfl) ?_
  all_goals refine dr_cons (op_ld ty27 rfl rfl rfl) ?_
  all_goals refine dr_cons (op_call fb128 (.cons rfl (Conv.of rfl) (.nil _)) (l3Copy_ct l hl.l' hl.v) (argOk rfl rfl argOk0) rfl rfl) ?_
  all_goals refine dr_cons (op_fab f29_3 rfl rfl) ?_
  all_goals refine dr_cons (op_ld ty3 rfl rfl rfl) ?_
  refine dr_cons (op_buildW (s := 9) (r := 5) (d := 12) (l := l) (e := e) (bd := bd) rfl rfl rfl (one_box rfl) (fun hv => .cons f29_0_WrldH rfl (Conv.of rfl) (.cons f29_2_WrldH rfl (Conv.of rfl) (.cons f29_3_WrldH rfl (Conv.of rfl) (.nil _)))) z29_WrldH pl29 rfl) ?_
  all_goals refine dr_cons (op_alloc (o := 0) z29_WrldS rfl rfl) ?_
  all_goals refine dr_cons (op_stm ty29_WrldS rfl rfl rfl) ?_
  all_goals refine dr_nil mixed rfl ?_
  all_goals refine awp_seq (awp_seq (awp_region (id := 2) ?_))
  all_goals refine awpOps_cons (op_as rfl (Conv.of rfl) rfl) ?_
  all_goals refine awpOps_nil ?_
  refine awp_block ?_
  refine awp_loop' (fun n s => (n = 4 ∧ s = mkSt 32 [(1, .box 20 (IsLens.whole Wrld)), (2, .box 5 (IsLens.whole WrldS)), (3, .box 0 (IsLens.whole WrldS)), (4, .v (0 : Int))] [(0, .cell (WrldS.mk e .nil ⟨l, true⟩ bd)), (5, .cell WrldS.zero), (20, .cell (Wrld.mk e [a, b, c, d] l bd))]) ∨ (n = 3 ∧ s = mkSt 32 [(1, .box 20 (IsLens.whole Wrld)), (2, .box 5 (IsLens.whole WrldS)), (3, .box 0 (IsLens.whole WrldS)), (4, .v (1 : Int))] [(0, .cell (WrldS.mk e (.ref 11) ⟨l, true⟩ bd)), (5, .cell WrldS.zero), (20, .cell (Wrld.mk e [a, b, c, d] l bd)), (11, .arr ([sN a] : List NodS))]) ∨ (n = 2 ∧ s = mkSt 32 [(1, .box 20 (IsLens.whole Wrld)), (2, .box 5 (IsLens.whole WrldS)), (3, .box 0 (IsLens.whole WrldS)), (4, .v (2 : Int))] [(0, .cell (WrldS.mk e (.ref 12) ⟨l, true⟩ bd)), (5, .cell WrldS.zero), (20, .cell (Wrld.mk e [a, b, c, d] l bd)), (12, .arr ([sN a, sN b] : List NodS))]) ∨ (n = 1 ∧ s = mkSt 32 [(1, .box 20 (IsLens.whole Wrld)), (2, .box 5 (IsLens.whole WrldS)), (3, .box 0 (IsLens.whole WrldS)), (4, .v (3 : Int))] [(0, .cell (WrldS.mk e (.ref 13) ⟨l, true⟩ bd)), (5, .cell WrldS.zero), (20, .cell (Wrld.mk e [a, b, c, d] l bd)), (13, .arr ([sN a, sN b, sN c] : List NodS))]) ∨ (n = 0 ∧ s = mkSt 32 [(1, .box 20 (IsLens.whole Wrld)), (2, .box 5 (IsLens.whole WrldS)), (3, .box 0 (IsLens.whole WrldS)), (4, .v (4 : Int))] [(0, .cell (WrldS.mk e (.ref 1) ⟨l, true⟩ bd)), (5, .cell WrldS.zero), (20, .cell (Wrld.mk e [a, b, c, d] l bd)), (1, .arr ([sN a, sN b, sN c, sN d] : List NodS))])) 4 (.inl ⟨rfl, rfl⟩) (Le.mk rfl (tlb rfl rfl rfl (tlb rfl rfl rfl (tlb rfl rfl rfl (tle rfl (rfl) rfl tln)))) (olk rfl (by exact obOkS0) (olk rfl (by exact obOkS0) (olk rfl (by exact obOk_cell) oln))) noS) ?_
  rintro n s (⟨rfl, rfl⟩|⟨rfl, rfl⟩|⟨rfl, rfl⟩|⟨rfl, rfl⟩|⟨rfl, rfl⟩)
  · all_goals refine awp_seq (awp_seq (awp_region (id := 3) ?_))
    all_goals refine awpOps_cons (op_mv rfl (Conv.of rfl) rfl) ?_
    all_goals refine awpOps_cons (op_fab f29_1 rfl rfl) ?_
    all_goals refine awpOps_cons (op_ld ty26 rfl rfl rfl) ?_
    all_goals refine awpOps_cons (op_len sl26 rfl rfl) ?_
    all_goals refine awpOps_cons (op_lss rfl rfl rfl) ?_
    all_goals refine awpOps_nil ?_
    refine awp_cond rfl (fun h => ?_) (fun h => ?_)
    rotate_left
    · simp at h
    refine awp_skip ?_
    refine awp_seq (awp_block ?_)
    have hx : ([a, b, c, d] : List Nod)[0]? = some a := rfl
    all_goals refine dr_start (id := 5) ?_
    all_goals refine dr_cons (op_fab f29_1_WrldS rfl rfl) ?_
    all_goals refine dr_cons (op_ld ty26_NRef rfl rfl rfl) ?_
    all_goals refine dr_cons (op_fab f29_1 rfl rfl) ?_
    all_goals refine dr_cons (op_ld ty26 rfl rfl rfl) ?_
    all_goals refine dr_cons (op_mv rfl (Conv.of rfl) rfl) ?_
    all_goals refine dr_cons (op_ix sl26 rfl rfl rfl (by omega) hx) ?_
    all_goals refine dr_cons (op_ldr ty41 rfl rfl) ?_
    all_goals refine dr_cons (op_call fb104 (.cons rfl (Conv.of rfl) (.nil _)) (l12Copy_ct a ha.l' ha.v) (argOk rfl rfl argOk0) rfl rfl) ?_
    refine dr_cons (op_bsm (s := 27) (d := 28) (o := 31) sl26_NodS z41_NodS rfl rfl rfl (by decide) rfl) ?_
    refine dr_cons (op_apMN (o2 := 31) (o' := 11) sl26_NodS z41_NodS ul26 rfl rfl rfl rfl (by simp) (by simp) (by simp) rfl) ?_
    all_goals refine dr_cons (op_fab f29_1_WrldS rfl rfl) ?_
    all_goals refine dr_cons (op_st ty26_NRef rfl rfl (Conv.of rfl) rfl) ?_
    all_goals refine dr_nil mixed rfl ?_
    all_goals refine awp_region (id := 4) ?_
    all_goals refine awpOps_cons (op_mv rfl (Conv.of rfl) rfl) ?_
    all_goals refine awpOps_cons (op_add rfl rfl rfl (by omega)) ?_
    all_goals refine awpOps_cons (op_as rfl (Conv.of rfl) rfl) ?_
    all_goals refine awpOps_nil ?_
    repeat first | refine nx_seq ?_ | refine nx_block ?_
    exact ⟨3, _, by decide, .inr (.inl ⟨rfl, rfl⟩), Le.mk rfl (tlb rfl rfl rfl (tlb rfl rfl rfl (tlb rfl rfl rfl (tle rfl (rfl) rfl tln)))) (olk rfl (by exact obOkS rfl) (olk rfl (by exact obOkS0) (olk rfl (by exact obOk_cell) (olk rfl (by exact obOkNs) oln)))) noS⟩
  · all_goals refine awp_seq (awp_seq (awp_region (id := 3) ?_))
    all_goals refine awpOps_cons (op_mv rfl (Conv.of rfl) rfl) ?_
    all_goals refine awpOps_cons (op_fab f29_1 rfl rfl) ?_
    all_goals refine awpOps_cons (op_ld ty26 rfl rfl rfl) ?_
    all_goals refine awpOps_cons (op_len sl26 rfl rfl) ?_
    all_goals refine awpOps_cons (op_lss rfl rfl rfl) ?_
    all_goals refine awpOps_nil ?_
    refine awp_cond rfl (fun h => ?_) (fun h => ?_)
    rotate_left
    · simp at h
    refine awp_skip ?_
    refine awp_seq (awp_block ?_)
    have hx : ([a, b, c, d] : List Nod)[1]? = some b := rfl
    all_goals refine dr_start (id := 5) ?_
    all_goals refine dr_cons (op_fab f29_1_WrldS rfl rfl) ?_
    all_goals refine dr_cons (op_ld ty26_NRef rfl rfl rfl) ?_
    all_goals refine dr_cons (op_fab f29_1 rfl rfl) ?_
    all_goals refine dr_cons (op_ld ty26 rfl rfl rfl) ?_
    all_goals refine dr_cons (op_mv rfl (Conv.of rfl) rfl) ?_
    all_goals refine dr_cons (op_ix sl26 rfl rfl rfl (by omega) hx) ?_
    all_goals refine dr_cons (op_ldr ty41 rfl rfl) ?_
    all_goals refine dr_cons (op_call fb104 (.cons rfl (Conv.of rfl) (.nil _)) (l12Copy_ct b hb.l' hb.v) (argOk rfl rfl argOk0) rfl rfl) ?_
    refine dr_cons (op_bsm (s := 27) (d := 28) (o := 32) sl26_NodS z41_NodS rfl rfl rfl (by decide) rfl) ?_
    refine dr_cons (op_apMA (o := 11) (o2 := 32) (o' := 12) sl26_NodS z41_NodS ul26 rfl rfl rfl rfl rfl rfl (by simp) (by simp) (by simp) rfl) ?_
    all_goals refine dr_cons (op_fab f29_1_WrldS rfl rfl) ?_
    all_goals refine dr_cons (op_st ty26_NRef rfl rfl (Conv.of rfl) rfl) ?_
    all_goals refine dr_nil mixed rfl ?_
    all_goals refine awp_region (id := 4) ?_
    all_goals refine awpOps_cons (op_mv rfl (Conv.of rfl) rfl) ?_
    all_goals refine awpOps_cons (op_add rfl rfl rfl (by omega)) ?_
    all_goals refine awpOps_cons (op_as rfl (Conv.of rfl) rfl) ?_
    all_goals refine awpOps_nil ?_
    repeat first | refine nx_seq ?_ | refine nx_block ?_
    exact ⟨2, _, by decide, .inr (.inr (.inl ⟨rfl, rfl⟩)), Le.mk rfl (tlb rfl rfl rfl (tlb rfl rfl rfl (tlb rfl rfl rfl (tle rfl (rfl) rfl tln)))) (olk rfl (by exact obOkS rfl) (olk rfl (by exact obOkS0) (olk rfl (by exact obOk_cell) (olk rfl (by exact obOkNs) oln)))) noS⟩
  · all_goals refine awp_seq (awp_seq (awp_region (id := 3) ?_))
    all_goals refine awpOps_cons (op_mv rfl (Conv.of rfl) rfl) ?_
    all_goals refine awpOps_cons (op_fab f29_1 rfl rfl) ?_
    all_goals refine awpOps_cons (op_ld ty26 rfl rfl rfl) ?_
    all_goals refine awpOps_cons (op_len sl26 rfl rfl) ?_
    all_goals refine awpOps_cons (op_lss rfl rfl rfl) ?_
    all_goals refine awpOps_nil ?_
    refine awp_cond rfl (fun h => ?_) (fun h => ?_)
    rotate_left
    · simp at h
    refine awp_skip ?_
    refine awp_seq (awp_block ?_)
    have hx : ([a, b, c, d] : List Nod)[2]? = some c := rfl
    all_goals refine dr_start (id := 5) ?_
    all_goals refine dr_cons (op_fab f29_1_WrldS rfl rfl) ?_
    all_goals refine dr_cons (op_ld ty26_NRef rfl rfl rfl) ?_
    all_goals refine dr_cons (op_fab f29_1 rfl rfl) ?_
    all_goals refine dr_cons (op_ld ty26 rfl rfl rfl) ?_
    all_goals refine dr_cons (op_mv rfl (Conv.of rfl) rfl) ?_
    all_goals refine dr_cons (op_ix sl26 rfl rfl rfl (by omega) hx) ?_
    all_goals refine dr_cons (op_ldr ty41 rfl rfl) ?_
    all_goals refine dr_cons (op_call fb104 (.cons rfl (Conv.of rfl) (.nil _)) (l12Copy_ct c hc.l' hc.v) (argOk rfl rfl argOk0) rfl rfl) ?_
    refine dr_cons (op_bsm (s := 27) (d := 28) (o := 33) sl26_NodS z41_NodS rfl rfl rfl (by decide) rfl) ?_
    refine dr_cons (op_apMA (o := 12) (o2 := 33) (o' := 13) sl26_NodS z41_NodS ul26 rfl rfl rfl rfl rfl rfl (by simp) (by simp) (by simp) rfl) ?_
    all_goals refine dr_cons (op_fab f29_1_WrldS rfl rfl) ?_
    all_goals refine dr_cons (op_st ty26_NRef rfl rfl (Conv.of rfl) rfl) ?_
    all_goals refine dr_nil mixed rfl ?_
    all_goals refine awp_region (id := 4) ?_
    all_goals refine awpOps_cons (op_mv rfl (Conv.of rfl) rfl) ?_
    all_goals refine awpOps_cons (op_add rfl rfl rfl (by omega)) ?_
    all_goals refine awpOps_cons (op_as rfl (Conv.of rfl) rfl) ?_
    all_goals refine awpOps_nil ?_
    repeat first | refine nx_seq ?_ | refine nx_block ?_
    exact ⟨1, _, by decide, .inr (.inr (.inr (.inl ⟨rfl, rfl⟩))), Le.mk rfl (tlb rfl rfl rfl (tlb rfl rfl rfl (tlb rfl rfl rfl (tle rfl (rfl) rfl tln)))) (olk rfl (by exact obOkS rfl) (olk rfl (by exact obOkS0) (olk rfl (by exact obOk_cell) (olk rfl (by exact obOkNs) oln)))) noS⟩
  · all_goals refine awp_seq (awp_seq (awp_region (id := 3) ?_))
    all_goals refine awpOps_cons (op_mv rfl (Conv.of rfl) rfl) ?_
    all_goals refine awpOps_cons (op_fab f29_1 rfl rfl) ?_
    all_goals refine awpOps_cons (op_ld ty26 rfl rfl rfl) ?_
    all_goals refine awpOps_cons (op_len sl26 rfl rfl) ?_
    all_goals refine awpOps_cons (op_lss rfl rfl rfl) ?_
    all_goals refine awpOps_nil ?_
    refine awp_cond rfl (fun h => ?_) (fun h => ?_)
    rotate_left
    · simp at h
    refine awp_skip ?_
    refine awp_seq (awp_block ?_)
    have hx : ([a, b, c, d] : List Nod)[3]? = some d := rfl
    all_goals refine dr_start (id := 5) ?_
    all_goals refine dr_cons (op_fab f29_1_WrldS rfl rfl) ?_
    all_goals refine dr_cons (op_ld ty26_NRef rfl rfl rfl) ?_
    all_goals refine dr_cons (op_fab f29_1 rfl rfl) ?_
    all_goals refine dr_cons (op_ld ty26 rfl rfl rfl) ?_
    all_goals refine dr_cons (op_mv rfl (Conv.of rfl) rfl) ?_
    all_goals refine dr_cons (op_ix sl26 rfl rfl rfl (by omega) hx) ?_
    all_goals refine dr_cons (op_ldr ty41 rfl rfl) ?_
    all_goals refine dr_cons (op_call fb104 (.cons rfl (Conv.of rfl) (.nil _)) (l12Copy_ct d hd.l' hd.v) (argOk rfl rfl argOk0) rfl rfl) ?_
    refine dr_cons (op_bsm (s := 27) (d := 28) (o := 34) sl26_NodS z41_NodS rfl rfl rfl (by decide) rfl) ?_
    refine dr_cons (op_apMA (o := 13) (o2 := 34) (o' := 1) sl26_NodS z41_NodS ul26 rfl rfl rfl rfl rfl rfl (by simp) (by simp) (by simp) rfl) ?_
    all_goals refine dr_cons (op_fab f29_1_WrldS rfl rfl) ?_
    all_goals refine dr_cons (op_st ty26_NRef rfl rfl (Conv.of rfl) rfl) ?_
    all_goals refine dr_nil mixed rfl ?_
    all_goals refine awp_region (id := 4) ?_
    all_goals refine awpOps_cons (op_mv rfl (Conv.of rfl) rfl) ?_
    all_goals refine awpOps_cons (op_add rfl rfl rfl (by omega)) ?_
    all_goals refine awpOps_cons (op_as rfl (Conv.of rfl) rfl) ?_
    all_goals refine awpOps_nil ?_
    repeat first | refine nx_seq ?_ | refine nx_block ?_
    exact ⟨0, _, by decide, .inr (.inr (.inr (.inr (⟨rfl, rfl⟩)))), Le.mk rfl (tlb rfl rfl rfl (tlb rfl rfl rfl (tlb rfl rfl rfl (tle rfl (rfl) rfl tln)))) (olk rfl (by exact obOkS rfl) (olk rfl (by exact obOkS0) (olk rfl (by exact obOk_cell) (olk rfl (by exact obOkNs) oln)))) noS⟩
  · all_goals refine awp_seq (awp_seq (awp_region (id := 3) ?_))
    all_goals refine awpOps_cons (op_mv rfl (Conv.of rfl) rfl) ?_
    all_goals refine awpOps_cons (op_fab f29_1 rfl rfl) ?_
    all_goals refine awpOps_cons (op_ld ty26 rfl rfl rfl) ?_
    all_goals refine awpOps_cons (op_len sl26 rfl rfl) ?_
    all_goals refine awpOps_cons (op_lss rfl rfl rfl) ?_
    all_goals refine awpOps_nil ?_
    refine awp_cond rfl (fun h => ?_) (fun h => ?_)
    · simp at h
    refine awp_exit ?_
    repeat refine ex_seq ?_
    refine ex_block ?_
    all_goals refine awp_seq (awp_region (id := 6) ?_)
    all_goals refine awpOps_cons (op_ldm ty29_WrldS rfl rfl rfl) ?_
    all_goals refine awpOps_cons (op_stm ty29_WrldS rfl rfl rfl) ?_
    all_goals refine awpOps_nil ?_
    refine awp_ret ?_
    repeat first | refine rt_seq ?_ | refine rt_block ?_
    refine ⟨_, _, res1C (ol := [(1, .arr ([sN a, sN b, sN c, sN d] : List NodS))]) ty29_WrldS rfl rfl (fun o ho => ?_) (olk rfl obOkNs oln) noS, rfl, rfl⟩
    have : o = 1 := by simpa using (show o ∈ [1] from ho)
    subst this; rfl
theorem l21Copy_ct (w : Wrld) (h : FineX w) : Ct Tryz.prog 75 [.v w] noObj (fun r1 h1 => r1 = .v (sW w) ∧ h1 = obs (so w)) := by
  have h4 := h.four
  have hg := h.fine.log
  have hs := h.fine.seen
  obtain ⟨e, ns, l, bd⟩ := w
  match ns, h4 with
  | [a, b, c, d], _ => exact l21Copy4_ct e a b c d l bd hg (hs a (by simp)) (hs b (by simp)) (hs c (by simp)) (hs d (by simp))
end Go.Proofs.YtmdhfalfppkpeaaGreat

/- The reference: what happens in a world, for outsiders; both: a node hears, for outsiders. -/
set_option linter.unusedVariables false
set_option linter.unusedSimpArgs false
namespace Go.Proofs.YtmdhfalfppkpeaaGreat
open Go Go.Wt
def nodeHearR (n : Nod) (v : Vote) : Nod × Vote × Bool := if nodeOk n then hearF n v else (.zero, .zero, false)
end Go.Proofs.YtmdhfalfppkpeaaGreat

/- Quiet epochs. -/
set_option linter.unusedVariables false
set_option linter.unusedSimpArgs false
namespace Go.Proofs.YtmdhfalfppkpeaaGreat
open Go Go.Wt
set_option maxHeartbeats 1000000 in
theorem spread_ct (w : Wrld) (hw : Fine w) : CtO Tryz.prog 126 [.box 0 (IsLens.whole WrldA)] (wo w) (.tup []) (wo (spreadF w)) := by
  refine Ct.intro Tryz.func126 rfl rfl ?_
  all_goals refine awp_seq (awp_region (id := 0) ?_)
  all_goals refine awpOps_cons (op_as rfl (Conv.of rfl) rfl) ?_
  all_goals refine awpOps_nil ?_
  refine awp_block ?_
  refine awp_loop' (fun n_ s => ∃ (a : Nat), ∃ (x : Wrld), ∃ (hx : Fine x), ∃ (he : sprF (100 - a) a x = spreadF w), ∃ (hn : n_ + a = 100), s = mkSt 21 [(0, .box 0 (IsLens.whole WrldA)), (2, .v (a : Int))] [(0, .cell (wA x)), (1, .arr x.nodes)]) (100) ⟨0, w, hw, rfl, by omega, rfl⟩ (Le.mk rfl (tlb rfl rfl rfl (tle rfl (rfl) rfl tln)) (olk rfl (by exact obOkW rfl) (olk rfl (by exact obOk_arr) oln)) (hS_sub (a := wo w) rfl)) ?_
  rintro n_ s ⟨a, x, hx, he, hn, rfl⟩
  all_goals refine awp_seq (awp_seq (awp_region (id := 1) ?_))
  all_goals refine awpOps_cons (op_mv rfl (Conv.of rfl) rfl) ?_
  all_goals refine awpOps_cons (op_mv rfl (Conv.of rfl) rfl) ?_
  all_goals refine awpOps_cons (op_nilc_box rfl rfl) ?_
  all_goals refine awpOps_cons (op_fab f29_2_WrldA rfl rfl) ?_
  all_goals refine awpOps_cons (op_ld ty27 rfl rfl rfl) ?_
  all_goals refine awpOps_cons (op_len sl27 rfl rfl) ?_
  all_goals refine awpOps_cons (op_lss rfl rfl rfl) ?_
  all_goals refine awpOps_nil ?_
  refine awp_cond rfl (fun h => ?_) (fun h => ?_)
  · have ha : a < x.log.length := by simpa using h
    have hll := hx.ll
    refine awp_skip ?_
    refine awp_seq (awp_block ?_)
    all_goals refine awp_seq (awp_region (id := 3) ?_)
    all_goals refine awpOps_cons (op_as rfl (Conv.of rfl) rfl) ?_
    all_goals refine awpOps_nil ?_
    refine awp_toB (s' := mkSt 21 [(0, .box 0 (IsLens.whole WrldA)), (2, .v (a : Int))] [(0, .cell (wA (b4 x a))), (1, .arr (b4 x a).nodes)]) ?_ ?_
    · refine awp_block ?_
      refine awp_loop' (fun n_ s => ∃ (k : Nat), ∃ (hk : n_ + k = 4), s = mkSt 21 [(0, .box 0 (IsLens.whole WrldA)), (2, .v (a : Int)), (3, .v ((k : Int) + 1))] [(0, .cell (wA (brN x a k))), (1, .arr (brN x a k).nodes)]) (4) ⟨0, by omega, rfl⟩ (Le.mk rfl (tlb rfl rfl rfl (tle rfl (rfl) rfl (tle rfl (rfl) rfl tln))) (olk rfl (by exact obOkW rfl) (olk rfl (by exact obOk_arr) oln)) (hS_sub (a := wo w) rfl)) ?_
      rintro n_ s ⟨k, hk, rfl⟩
      all_goals refine awp_seq (awp_seq (awp_region (id := 4) ?_))
      all_goals refine awpOps_cons (op_mv rfl (Conv.of rfl) rfl) ?_
      all_goals refine awpOps_cons (op_leq rfl rfl rfl) ?_
      all_goals refine awpOps_nil ?_
      refine awp_cond rfl (fun h2 => ?_) (fun h2 => ?_)
      · have hk2 : k < 4 := by simp at h2; omega
        refine awp_skip ?_
        refine awp_seq (awp_block ?_)
        all_goals refine awp_region (id := 6) ?_
        all_goals refine awpOps_cons (op_mv rfl (Conv.of rfl) rfl) ?_
        all_goals refine awpOps_cons (op_mv rfl (Conv.of rfl) rfl) ?_
        all_goals refine awpOps_cons (op_mv rfl (Conv.of rfl) rfl) ?_
        all_goals refine awpOps_cons (op_callO fb113 (.cons rfl (Conv.of rfl) (.cons rfl (Conv.of rfl) (.cons rfl (Conv.of rfl) (.nil _)))) (wbring_ct _ _ _ (brN_fine hx a k)) (olsk rfl (olsk rfl ols0)) (oksk (by exact obOkW rfl) (oksk (by exact obOk_arr) oks0)) (oksk (by exact obOkW rfl) (oksk (by exact obOk_arr) oks0)) rfl (argOb rfl rfl rfl (argOk' rfl rfl (argOk' rfl rfl argO0))) (fun o ho => by cases ho) rfl) ?_
        all_goals refine awpOps_nil ?_
        all_goals refine awp_region (id := 5) ?_
        all_goals refine awpOps_cons (op_mv rfl (Conv.of rfl) rfl) ?_
        all_goals refine awpOps_cons (op_add rfl rfl rfl (by omega)) ?_
        all_goals refine awpOps_cons (op_as rfl (Conv.of rfl) rfl) ?_
        all_goals refine awpOps_nil ?_
        repeat first | refine nx_seq ?_ | refine nx_block ?_
        exact ⟨n_ - 1, _, by omega, ⟨k + 1, by omega, rfl⟩, Le.mk rfl (tlb rfl rfl rfl (tle rfl (rfl) rfl (tle rfl (rfl) rfl tln))) (olk rfl (by exact obOkW rfl) (olk rfl (by exact obOk_arr) oln)) (hS_sub (a := wo w) rfl)⟩
      · refine awp_exit ?_
        repeat refine ex_seq ?_
        refine ex_block ?_
        have hk4 : k = 4 := by simp at h2; omega
        subst hk4
        all_goals exact Le.mk rfl (tlb rfl rfl rfl (tle rfl (rfl) rfl tln)) (olk rfl (by exact obOkW rfl) (olk rfl (by exact obOk_arr) oln)) (hS_sub (a := wo w) rfl)
    · all_goals refine awp_region (id := 2) ?_
      all_goals refine awpOps_cons (op_mv rfl (Conv.of rfl) rfl) ?_
      all_goals refine awpOps_cons (op_add rfl rfl rfl (by omega)) ?_
      all_goals refine awpOps_cons (op_as rfl (Conv.of rfl) rfl) ?_
      all_goals refine awpOps_nil ?_
      repeat first | refine nx_seq ?_ | refine nx_block ?_
      exact ⟨n_ - 1, _, by omega, ⟨a + 1, b4 x a, b4_fine hx a, (by rw [← he, show 100 - a = (100 - (a + 1)) + 1 by omega, sprF_go ha]), by omega, rfl⟩, Le.mk rfl (tlb rfl rfl rfl (tle rfl (rfl) rfl tln)) (olk rfl (by exact obOkW rfl) (olk rfl (by exact obOk_arr) oln)) (hS_sub (a := wo w) rfl)⟩
  · refine awp_exit ?_
    repeat refine ex_seq ?_
    refine ex_block ?_
    have ha : ¬ a < x.log.length := by simpa using h
    rw [sprF_stop ha] at he
    subst he
    refine finO (wo (spreadF w)) .nil rfl (fun o ho => by cases ho) ?_ (hS_keys rfl) rfl
    exact (olk rfl (obOkW rfl) (olk rfl obOk_arr oln))
set_option maxHeartbeats 1000000 in
theorem calm_ct (w : Wrld) (p : Pay) (hw : Fine w) : CtO Tryz.prog 74 [.box 0 (IsLens.whole WrldA), .v p] (wo w) (.tup []) (wo (calmF w p)) := by
  have h1 := tick_fine hw
  have h2 := spread_fine h1
  have h3 := propose_fine h2 (leader (spreadF (tickF w)).epoch) p
  refine Ct.intro Tryz.func74 rfl rfl ?_
  all_goals refine awp_seq (awp_region (id := 0) ?_)
  all_goals refine awpOps_cons (op_box (o := 2) ty58 rfl (Conv.of rfl) rfl rfl) ?_
  all_goals refine awpOps_nil ?_
  all_goals refine awp_seq (awp_region (id := 1) ?_)
  all_goals refine awpOps_cons (op_mv rfl (Conv.of rfl) rfl) ?_
  all_goals refine awpOps_cons (op_callO fb111 (.cons rfl (Conv.of rfl) (.nil _)) (tick_ct w hw) (olsk rfl (olsk rfl ols0)) (oksk (by exact obOkW rfl) (oksk (by exact obOk_arr) oks0)) (oksk (by exact obOkW rfl) (oksk (by exact obOk_arr) oks0)) rfl (argOb rfl rfl rfl argO0) (fun o ho => by cases ho) rfl) ?_
  all_goals refine awpOps_nil ?_
  all_goals refine awp_seq (awp_region (id := 2) ?_)
  all_goals refine awpOps_cons (op_mv rfl (Conv.of rfl) rfl) ?_
  all_goals refine awpOps_cons (op_callO fb126 (.cons rfl (Conv.of rfl) (.nil _)) (spread_ct _ h1) (olsk rfl (olsk rfl ols0)) (oksk (by exact obOkW rfl) (oksk (by exact obOk_arr) oks0)) (oksk (by exact obOkW rfl) (oksk (by exact obOk_arr) oks0)) rfl (argOb rfl rfl rfl argO0) (fun o ho => by cases ho) rfl) ?_
  all_goals refine awpOps_nil ?_
  all_goals refine awp_seq (dr_start (id := 3) ?_)
  all_goals refine dr_cons (op_mv rfl (Conv.of rfl) rfl) ?_
  all_goals refine dr_cons (op_mv rfl (Conv.of rfl) rfl) ?_
  all_goals refine dr_cons (op_nilc_box rfl rfl) ?_
  all_goals refine dr_cons (op_fab f29_0_WrldA rfl rfl) ?_
  all_goals refine dr_cons (op_ld ty3 rfl rfl rfl) ?_
  all_goals refine dr_cons (op_call fb127 (.cons rfl (Conv.of rfl) (.nil _)) (leader_ct _) (argOk rfl rfl argOk0) rfl rfl) ?_
  all_goals refine dr_cons (op_ld ty58 rfl rfl rfl) ?_
  all_goals refine dr_cons (op_callO fb112 (.cons rfl (Conv.of rfl) (.cons rfl (Conv.of rfl) (.cons rfl (Conv.of rfl) (.nil _)))) (wpropose_ct _ _ _ h2) (olsk rfl (olsk rfl ols0)) (oksk (by exact obOkW rfl) (oksk (by exact obOk_arr) oks0)) (oksk (by exact obOkW rfl) (oksk (by exact obOk_arr) oks0)) rfl (argOb rfl rfl rfl (argOk' rfl rfl (argOk' rfl rfl argO0))) (fun o ho => by cases ho) rfl) ?_
  all_goals refine dr_nil mixed rfl ?_
  all_goals refine awp_region (id := 4) ?_
  all_goals refine awpOps_cons (op_mv rfl (Conv.of rfl) rfl) ?_
  all_goals refine awpOps_cons (op_callO fb126 (.cons rfl (Conv.of rfl) (.nil _)) (spread_ct _ h3) (olsk rfl (olsk rfl ols0)) (oksk (by exact obOkW rfl) (oksk (by exact obOk_arr) oks0)) (oksk (by exact obOkW rfl) (oksk (by exact obOk_arr) oks0)) rfl (argOb rfl rfl rfl argO0) (fun o ho => by cases ho) rfl) ?_
  all_goals refine awpOps_nil ?_
  refine finO (wo (calmF w p)) .nil rfl (fun o ho => by cases ho) ?_ (hS_keys rfl) rfl
  exact (olk rfl (obOkW rfl) (olk rfl obOk_arr oln))
theorem worldCalmBad_ct (w : Wrld) (pays : List Pay) (h : (worldOk w && decide (pays.length ≤ 30)) = false) : CtP Tryz.prog 27 [.v w, .v pays] (.v Wrld.zero) := by
  have hl : worldOk w = true → (30 : Int) < (pays.length : Int) := fun e => by
    rw [e] at h
    simp at h
    omega
  clear h
  refine Ct.intro Tryz.func27 rfl rfl ?_
  all_goals refine awp_seq (awp_region (id := 0) ?_)
  all_goals refine awpOps_cons (op_box (o := 0) ty29 rfl (Conv.of rfl) rfl rfl) ?_
  all_goals refine awpOps_cons (op_alloc (o := 1) z29 rfl rfl) ?_
  all_goals refine awpOps_nil ?_
  refine awp_seq (awp_seq_to (s' := mkSt 30 [(1, .v pays), (4, .box 1 (IsLens.whole Wrld)), (15, .v true)] [(1, .cell Wrld.zero)]) ?_ ?_)
  · all_goals refine awp_region (id := 1) ?_
    all_goals refine awpOps_cons (op_ld ty29 rfl rfl rfl) ?_
    all_goals refine awpOps_cons (op_call fb30 (.cons rfl (Conv.of rfl) (.nil _)) (worldOk_ct _) (argOk rfl rfl argOk0) rfl rfl) ?_
    all_goals refine awpOps_cons (op_not rfl rfl) ?_
    all_goals refine awpOps_cons (op_mv rfl (Conv.of rfl) rfl) ?_
    all_goals refine g_split (t := 11) rfl (fun h => ?_) (fun h => ?_)
    all_goals first | refine awpOps_cons (g_off rfl rfl rfl rfl rfl) ?_ | refine awpOps_cons (g_on rfl rfl rfl (op_mv rfl (Conv.of rfl) rfl)) ?_
    all_goals first | refine awpOps_cons (g_off rfl rfl rfl rfl rfl) ?_ | refine awpOps_cons (g_on rfl rfl rfl (op_len sl51 rfl rfl)) ?_
    all_goals first | refine awpOps_cons (g_off rfl rfl rfl rfl rfl) ?_ | refine awpOps_cons (g_on rfl rfl rfl (op_gtr rfl rfl rfl)) ?_
    all_goals refine awpOps_cons (op_pick rfl rfl rfl rfl) ?_
    all_goals refine awpOps_nil ?_
    all_goals exact Le.mk rfl (tle rfl (rfl) rfl (tlb rfl rfl rfl (tle rfl (by first | rfl | (show AV.v _ = AV.v _; simp_all; try omega)) rfl tln))) (olk rfl (by exact obOk_cell) oln) noS
  refine awp_cond rfl (fun h2 => ?_) (fun h2 => absurd h2 (by decide))
  all_goals refine awp_seq (awp_region (id := 2) ?_)
  all_goals refine awpOps_cons (op_build (.nil _) z29 rfl pl29 rfl) ?_
  all_goals refine awpOps_cons (op_st ty29 rfl rfl (Conv.of rfl) rfl) ?_
  all_goals refine awpOps_nil ?_
  refine awp_ret ?_
  repeat first | refine rt_seq ?_ | refine rt_block ?_
  exact finP (.rc ty29 rfl rfl) rfl rfl
theorem worldCalmA_ct (w : Wrld) (pays : List Pay) (h : worldOk w = true) (hp : pays.length ≤ 30) : Ct Tryz.prog 27 [.v w, .v pays] noObj (fun r1 h1 => r1 = .v (WrldA.mk (pays.foldl calmF w).epoch (.ref 2) (pays.foldl calmF w).log (pays.foldl calmF w).bad) ∧ h1 = obs [(2, .arr (pays.foldl calmF w).nodes)]) := by
  have hf := (worldOk_iff.1 h).fx.fine
  refine Ct.intro Tryz.func27 rfl rfl ?_
  all_goals refine awp_seq (awp_region (id := 0) ?_)
  all_goals refine awpOps_cons (op_box (o := 5) ty29 rfl (Conv.of rfl) rfl rfl) ?_
  all_goals refine awpOps_cons (op_alloc (o := 6) z29_WrldA rfl rfl) ?_
  all_goals refine awpOps_nil ?_
  refine awp_seq (awp_seq_to (s' := mkSt 30 [(1, .v pays), (2, .box 5 (IsLens.whole Wrld)), (4, .box 6 (IsLens.whole WrldA)), (15, .v false)] [(5, .cell w), (6, .cell WrldA.zero)]) ?_ ?_)
  · all_goals refine awp_region (id := 1) ?_
    all_goals refine awpOps_cons (op_ld ty29_Wrld rfl rfl rfl) ?_
    all_goals refine awpOps_cons (op_call fb30 (.cons rfl (Conv.of rfl) (.nil _)) (worldOk_ct _) (argOk rfl rfl argOk0) rfl rfl) ?_
    all_goals refine awpOps_cons (op_not rfl rfl) ?_
    all_goals refine awpOps_cons (op_mv rfl (Conv.of rfl) rfl) ?_
    all_goals refine g_split (t := 11) rfl (fun h => ?_) (fun h => ?_)
    all_goals first | refine awpOps_cons (g_off rfl rfl rfl rfl rfl) ?_ | refine awpOps_cons (g_on rfl rfl rfl (op_mv rfl (Conv.of rfl) rfl)) ?_
    all_goals first | refine awpOps_cons (g_off rfl rfl rfl rfl rfl) ?_ | refine awpOps_cons (g_on rfl rfl rfl (op_len sl51 rfl rfl)) ?_
    all_goals first | refine awpOps_cons (g_off rfl rfl rfl rfl rfl) ?_ | refine awpOps_cons (g_on rfl rfl rfl (op_gtr rfl rfl rfl)) ?_
    all_goals refine awpOps_cons (op_pick rfl rfl rfl rfl) ?_
    all_goals refine awpOps_nil ?_
    all_goals exact Le.mk rfl (tle rfl (rfl) rfl (tlb rfl rfl rfl (tlb rfl rfl rfl (tle rfl (by (show AV.v _ = AV.v _; simp_all; try omega)) rfl tln)))) (olk rfl (by exact obOk_cell) (olk rfl (by exact obOkW0) oln)) noS
  refine awp_cond rfl (fun h2 => absurd h2 (by decide)) (fun h2 => ?_)
  refine awp_skip ?_
  all_goals refine awp_seq (awp_region (id := 3) ?_)
  all_goals refine awpOps_cons (op_ld ty29_Wrld rfl rfl rfl) ?_
  refine awpOps_callO [] rfl fb56 (.cons rfl (Conv.of rfl) (.nil _)) (copiedP_w w hf) ols0 oks0 (argOk' rfl rfl argO0) rfl ?_
  rintro r h' ⟨rfl, rfl⟩
  refine ⟨[(1, .arr w.nodes)], rfl, (fun o ho => by cases ho), fun o ho _ => ?_, oksk obOk_arr oks0, fun o ho => ?_, ?_⟩
  · have : o = 1 := by simpa [keys, lk0] using ho
    subst this; rfl
  · have : o = 1 := by simpa using (show o ∈ [1] from ho)
    subst this; rfl
  all_goals refine awpOps_cons (op_alloc (o := 0) z29_WrldA rfl rfl) ?_
  all_goals refine awpOps_cons (op_st ty29_WrldA rfl rfl (Conv.of rfl) rfl) ?_
  all_goals refine awpOps_nil ?_
  all_goals refine awp_seq (awp_seq (awp_region (id := 4) ?_))
  all_goals refine awpOps_cons (op_mv rfl (Conv.of rfl) rfl) ?_
  all_goals refine awpOps_cons (op_len sl51 rfl rfl) ?_
  all_goals refine awpOps_cons (op_mv rfl (Conv.of rfl) rfl) ?_
  all_goals refine awpOps_nil ?_
  refine awp_block ?_
  refine awp_loop' (fun n s => ∃ (k : Nat), ∃ (hn : n + k = pays.length), s = mkSt 30 [(4, .box 6 (IsLens.whole WrldA)), (5, .box 0 (IsLens.whole WrldA)), (19, .v pays), (20, .v (pays.length : Int)), (21, .v (k : Int))] [(0, .cell (wA ((pays.take k).foldl calmF w))), (1, .arr ((pays.take k).foldl calmF w).nodes), (6, .cell WrldA.zero)]) (pays.length) ⟨0, by omega, rfl⟩ (Le.mk rfl (tlb rfl rfl rfl (tlb rfl rfl rfl (tle rfl (rfl) rfl (tle rfl (rfl) rfl (tle rfl (rfl) rfl tln))))) (olk (by rfl) (by exact obOkW rfl) (olk (by rfl) (by exact obOk_arr) (olk rfl (by exact obOkW0) oln))) noS) ?_
  rintro n s ⟨k, hn, rfl⟩
  have hfine : Fine ((pays.take k).foldl calmF w) := calmFold_fine _ hf
  all_goals refine awp_seq (awp_region (id := 5) ?_)
  all_goals refine awpOps_cons (op_lss rfl rfl rfl) ?_
  all_goals refine awpOps_nil ?_
  refine awp_seq (awp_cond rfl (fun h => ?_) (fun h => ?_))
  · have hlt : k < pays.length := by simpa using h
    have hx : pays[k]? = some pays[k] := List.getElem?_eq_getElem hlt
    refine awp_skip ?_
    refine awp_seq (awp_block ?_)
    all_goals refine awp_seq (awp_region (id := 6) ?_)
    all_goals refine awpOps_cons (op_ix sl51 rfl rfl rfl (by omega) hx) ?_
    all_goals refine awpOps_cons (op_ldr ty58 rfl rfl) ?_
    all_goals refine awpOps_cons (op_alloc (o := 7) z58 rfl rfl) ?_
    all_goals refine awpOps_cons (op_st ty58 rfl rfl (Conv.of rfl) rfl) ?_
    all_goals refine awpOps_nil ?_
    all_goals refine awp_region (id := 7) ?_
    all_goals refine awpOps_cons (op_ld ty58 rfl rfl rfl) ?_
    all_goals refine awpOps_cons (op_callO fb74 (.cons rfl (Conv.of rfl) (.cons rfl (Conv.of rfl) (.nil _))) (calm_ct _ pays[k] hfine) (olsk rfl (olsk rfl ols0)) (oksk (by exact obOkW rfl) (oksk (by exact obOk_arr) oks0)) (oksk (by exact obOkW rfl) (oksk (by exact obOk_arr) oks0)) rfl (argOb rfl rfl rfl (argOk' rfl rfl argO0)) (fun o ho => by cases ho) rfl) ?_
    all_goals refine awpOps_nil ?_
    all_goals refine awp_region (id := 8) ?_
    all_goals refine awpOps_cons (op_add rfl rfl rfl (by omega)) ?_
    all_goals refine awpOps_cons (op_mv rfl (Conv.of rfl) rfl) ?_
    all_goals refine awpOps_nil ?_
    repeat first | refine nx_seq ?_ | refine nx_block ?_
    exact ⟨n - 1, _, by omega, ⟨k + 1, by omega, rfl⟩, Le.mk rfl (tlb rfl rfl rfl (tlb rfl rfl rfl (tle rfl (rfl) rfl (tle rfl (rfl) rfl (tle rfl (rfl) rfl tln))))) (olk (by (rw [foldl_at calmF _ hx]; rfl)) (by exact obOkW rfl) (olk (by (rw [foldl_at calmF _ hx]; rfl)) (by exact obOk_arr) (olk rfl (by exact obOkW0) oln))) noS⟩
  · refine awp_exit ?_
    repeat refine ex_seq ?_
    refine ex_block ?_
    have hk : pays.length ≤ k := by simpa using h
    have hp2 : (pays.take k).foldl calmF w = pays.foldl calmF w := by rw [take_end hk]
    rw [hp2] at hfine ⊢
    all_goals refine awp_seq (awp_region (id := 9) ?_)
    all_goals refine awpOps_cons (op_ld ty29_WrldA rfl rfl rfl) ?_
    refine awpOps_callO [(1, .arr (pays.foldl calmF w).nodes)] rfl fb56 (.cons rfl (Conv.of rfl) (.nil _)) (copiedA_w _ hfine) (olsk rfl ols0) (oksk obOk_arr oks0) (argOb rfl rfl rfl argO0) rfl ?_
    rintro r h' ⟨rfl, rfl⟩
    refine ⟨[(1, .arr (pays.foldl calmF w).nodes), (2, .arr (pays.foldl calmF w).nodes)], rfl, fun o ho => ?_, fun o ho h1 => ?_, oksk obOk_arr (oksk obOk_arr oks0), fun o ho => ?_, ?_⟩
    · have : o = 1 := by simpa [keys, lk0] using ho
      subst this; rfl
    · by_cases e : o = 1
      · subst e; cases h1
      · have : o = 2 := by simpa [keys, lk0, e] using ho
        subst this; rfl
    · have : o = 2 := by simpa using (show o ∈ [2] from ho)
      subst this; rfl
    all_goals refine awpOps_cons (op_st ty29_WrldA rfl rfl (Conv.of rfl) rfl) ?_
    all_goals refine awpOps_nil ?_
    refine awp_ret ?_
    repeat first | refine rt_seq ?_ | refine rt_block ?_
    refine ⟨_, _, res1 (ol := [(2, .arr (pays.foldl calmF w).nodes)]) (.rc ty29_WrldA rfl rfl) (fun o ho => ?_) (olk rfl obOk_arr oln) noS, rfl, rfl⟩
    have : o = 2 := by simpa using (show o ∈ [2] from ho)
    subst this; rfl
theorem worldCalm_ct (w : Wrld) (pays : List Pay) : CtP Tryz.prog 27 [.v w, .v pays] (.v (worldCalmR w pays)) := by
  unfold worldCalmR
  cases h : worldOk w && decide (pays.length ≤ 30) with
  | false => exact worldCalmBad_ct w pays h
  | true =>
    simp only [Bool.and_eq_true, decide_eq_true_eq] at h
    exact Ct.frz (worldCalmA_ct w pays h.1 h.2) (frz_one (big4 (calmFold_fine _ (worldOk_iff.1 h.1).fx.fine).four))
end Go.Proofs.YtmdhfalfppkpeaaGreat

/- What happens in a world in form. -/
set_option linter.unusedVariables false
set_option linter.unusedSimpArgs false
namespace Go.Wt
/-- What a node does when it hears `v`, or proposes. -/
structure NS (n : Nod) (v : Option Vote) (x : Nod × Vote × Bool) : Prop where
  id : x.1.id = n.id
  ep : x.1.epoch = n.epoch
  seen : ∃ N, x.1.seen = n.seen ++ N ∧ ∀ u ∈ N, some u = v ∨ (x.2.2 = true ∧ u = x.2.1)
  by_ : x.2.2 = true → x.2.1.by_ = n.id
theorem NS.refl (n : Nod) (v : Option Vote) : NS n v (n, .zero, false) := ⟨rfl, rfl, ⟨[], by simp, fun u hu => by cases hu⟩, fun h => by cases h⟩
theorem NS.keep {n m : Nod} {v : Option Vote} (hid : m.id = n.id) (hep : m.epoch = n.epoch) (hs : ∃ N, m.seen = n.seen ++ N ∧ ∀ u ∈ N, some u = v) : NS n v (m, .zero, false) := by
  obtain ⟨N, h1, h2⟩ := hs
  exact ⟨hid, hep, ⟨N, h1, fun u hu => .inl (h2 u hu)⟩, fun h => by cases h⟩
theorem NS.vote {n m : Nod} {v : Option Vote} {c : List Itm} (hid : m.id = n.id) (hep : m.epoch = n.epoch) (hs : ∃ N, m.seen = n.seen ++ N ∧ ∀ u ∈ N, some u = v) : NS n v (voteF m c) := by
  unfold voteF
  split
  · exact NS.keep hid hep hs
  · obtain ⟨N, h1, h2⟩ := hs
    refine ⟨hid, hep, ⟨N ++ [⟨m.id, c⟩], by simp [h1], fun u hu => ?_⟩, fun _ => hid⟩
    rcases List.mem_append.1 hu with hu | hu
    · exact .inl (h2 u hu)
    · simp at hu; exact .inr ⟨rfl, hu⟩
theorem NS.try {n m : Nod} {v : Option Vote} (hid : m.id = n.id) (hep : m.epoch = n.epoch) (hs : ∃ N, m.seen = n.seen ++ N ∧ ∀ u ∈ N, some u = v) : ∀ l : List Vote, NS n v (tryF m l)
  | [] => NS.keep hid hep hs
  | u :: r => by
    simp only [tryF]
    split
    · exact NS.vote hid hep hs
    · exact NS.try hid hep hs r
theorem seeF_app (n : Nod) (v : Vote) : ∃ N, (seeF n v).seen = n.seen ++ N ∧ ∀ u ∈ N, some u = some v := by
  unfold seeF
  split
  · exact ⟨[], by simp, fun u hu => by cases hu⟩
  · exact ⟨[v], rfl, fun u hu => by simp at hu; rw [hu]⟩
theorem NS.hear (n : Nod) (v : Vote) : NS n (some v) (hearF n v) := by
  have h := seeF_app n v
  have h2 := seeF_epoch n v
  unfold hearF
  split
  · split
    · exact NS.try h2.2.1 h2.1 h _
    · exact NS.keep h2.2.1 h2.1 h
  · exact NS.refl n _
theorem NS.propose (n : Nod) (p : Pay) : NS n none (proposeF n p) := by
  unfold proposeF
  split
  · exact NS.vote rfl rfl ⟨[], by simp, fun u hu => by cases hu⟩
  · exact NS.refl n _
theorem putF_nodes (w : Wrld) (k : Nat) (x : Nod × Vote × Bool) : (putF w k x).nodes = w.nodes.set k x.1 := by
  unfold putF
  split
  · unfold sendF; split <;> rfl
  · rfl
/-- What is sent: at most one more. -/
def Sn (w w' : Wrld) (p : Vote → Prop) : Prop := w'.log = w.log ∨ ∃ v, w'.log = w.log ++ [v] ∧ p v
theorem sendF_sn (w : Wrld) (v : Vote) {p : Vote → Prop} (h : p v) : Sn w (sendF w v) p := by
  unfold sendF
  split
  · exact .inr ⟨v, rfl, h⟩
  · exact .inl rfl
theorem sendF_mem {w : Wrld} {v : Vote} (h : w.log.length < 80) : v ∈ (sendF w v).log := by
  unfold sendF
  split
  · simp
  · rename_i hh
    simp only [Bool.and_eq_true, Bool.not_eq_true', decide_eq_false_iff_not, decide_eq_true_eq, not_and] at hh
    by_cases hm : v ∈ w.log
    · exact hm
    · exact absurd h (hh hm)
theorem putF_sn {w : Wrld} {k : Nat} {x : Nod × Vote × Bool} {p : Vote → Prop} (h : x.2.2 = true → p x.2.1) : Sn w (putF w k x) p := by
  unfold putF
  split
  · rename_i hh
    exact sendF_sn { w with nodes := w.nodes.set k x.1 } x.2.1 (h hh)
  · exact .inl rfl
theorem putF_has {w : Wrld} {k : Nat} {x : Nod × Vote × Bool} (h : x.2.2 = true) (hl : w.log.length < 80) : x.2.1 ∈ (putF w k x).log := by
  unfold putF
  rw [if_pos h]
  exact sendF_mem hl
theorem Sn.sub {w w' : Wrld} {p : Vote → Prop} (h : Sn w w' p) : ∀ v ∈ w.log, v ∈ w'.log := fun v hv => by
  rcases h with e | ⟨u, e, _⟩
  · rw [e]; exact hv
  · rw [e]; exact List.mem_append_left _ hv
/-- What a world becomes. -/
structure Stp (w w' : Wrld) : Prop where
  ok : WOk w'
  bad : w'.bad = w.bad
  ep : w.epoch ≤ w'.epoch ∧ w'.epoch ≤ w.epoch + 1
  log : Sn w w' (fun _ => True)
  seen : ∀ (i : Nat) (n : Nod), w.nodes[i]? = some n → ∃ n' N, w'.nodes[i]? = some n' ∧ n'.seen = n.seen ++ N
theorem Stp.refl {w : Wrld} (h : WOk w) : Stp w w := ⟨h, rfl, by omega, .inl rfl, fun i n hn => ⟨n, [], hn, by simp⟩⟩
theorem Stp.put {w : Wrld} {k : Nat} {n : Nod} {v : Option Vote} {x : Nod × Vote × Bool} (h : WOk w) (hn : w.nodes[k]? = some n) (hx : NS n v x) (hv : ∀ u, v = some u → u ∈ w.log) (hl : w.log.length < 80)
    (h1 : nodeOk x.1 = true) (h2 : x.2.2 = true → voteOk x.2.1 = true) : Stp w (putF w k x) := by
  have hno := putF_nodes w k x
  have hsn : Sn w (putF w k x) (fun _ => True) := putF_sn fun _ => trivial
  have heb := putF_eb w k x
  have hlt := (List.getElem?_eq_some_iff.1 hn).1
  refine ⟨⟨putF_ok h.fx h1 h2, by rw [heb.2]; exact h.bad, fun i m hm => ?_⟩, heb.2, by rw [heb.1]; omega, hsn, fun i m hm => ?_⟩
  · rw [hno] at hm
    rw [heb.1, heb.2]
    by_cases hik : k = i
    · subst hik
      rw [List.getElem?_set_self hlt] at hm
      injection hm with hm
      subst hm
      obtain ⟨a, b, c⟩ := h.node k n hn
      refine ⟨by rw [hx.id]; exact a, by rw [hx.ep]; exact b, fun u hu => ?_⟩
      obtain ⟨N, e, hN⟩ := hx.seen
      rw [e] at hu
      rcases List.mem_append.1 hu with hu | hu
      · rcases c u hu with q | q
        · exact .inl q
        · exact .inr (hsn.sub u q)
      · rcases hN u hu with q | ⟨q1, q2⟩
        · exact .inr (hsn.sub u (hv u q.symm))
        · rw [q2]; exact .inr (putF_has q1 hl)
    · rw [List.getElem?_set_ne hik] at hm
      obtain ⟨a, b, c⟩ := h.node i m hm
      exact ⟨a, b, fun u hu => (c u hu).imp id (hsn.sub u)⟩
  · rw [hno]
    by_cases hik : k = i
    · subst hik
      rw [hn] at hm
      injection hm with hm
      subst hm
      obtain ⟨N, e, _⟩ := hx.seen
      exact ⟨x.1, N, by rw [List.getElem?_set_self hlt], e⟩
    · exact ⟨m, [], by rw [List.getElem?_set_ne hik]; exact hm, by simp⟩
theorem Stp.tick {w : Wrld} (h : WOk w) : Stp w (tickF w) := by
  have hep := h.fx.ep
  refine ⟨⟨tickF_ok h.fx, h.bad, fun i m hm => ?_⟩, rfl, ?_, .inl rfl, fun i n hn => ?_⟩
  · have hm' : (w.nodes.map fun n => enterF n (min (w.epoch + 1) 30))[i]? = some m := hm
    rw [List.getElem?_map] at hm'
    cases hn : w.nodes[i]? with
    | none => rw [hn] at hm'; cases hm'
    | some n =>
      rw [hn] at hm'
      simp at hm'
      obtain ⟨a, b, c⟩ := h.node i n hn
      subst hm'
      refine ⟨?_, ?_, fun u hu => ?_⟩
      · unfold enterF; split <;> exact a
      · show (enterF n (min (w.epoch + 1) 30)).epoch = min (w.epoch + 1) 30
        unfold enterF
        split
        · rfl
        · rename_i hh
          simp only [within, Bool.and_eq_true, decide_eq_true_eq, not_and] at hh
          rw [b] at hh ⊢
          omega
      · have : (enterF n (min (w.epoch + 1) 30)).seen = n.seen := by unfold enterF; split <;> rfl
        rw [this] at hu
        exact c u hu
  · show w.epoch ≤ min (w.epoch + 1) 30 ∧ min (w.epoch + 1) 30 ≤ w.epoch + 1
    omega
  · refine ⟨enterF n (min (w.epoch + 1) 30), [], ?_, ?_⟩
    · show (w.nodes.map fun n => enterF n (min (w.epoch + 1) 30))[i]? = _
      rw [List.getElem?_map, hn]; rfl
    · unfold enterF; split <;> simp
theorem Stp.send {w : Wrld} {v : Vote} (h : WOk w) (hv : voteOk v = true) : Stp w (sendF w v) := by
  have hsn : Sn w (sendF w v) (fun _ => True) := sendF_sn w v trivial
  have e : (sendF w v).epoch = w.epoch ∧ (sendF w v).bad = w.bad ∧ (sendF w v).nodes = w.nodes := by unfold sendF; split <;> exact ⟨rfl, rfl, rfl⟩
  refine ⟨⟨sendF_ok h.fx hv, by rw [e.2.1]; exact h.bad, fun i m hm => ?_⟩, e.2.1, by rw [e.1]; omega, hsn, fun i n hn => ⟨n, [], by rw [e.2.2]; exact hn, by simp⟩⟩
  rw [e.2.2] at hm
  rw [e.1, e.2.1]
  obtain ⟨a, b, c⟩ := h.node i m hm
  exact ⟨a, b, fun u hu => (c u hu).imp id (hsn.sub u)⟩
theorem Stp.bring {w : Wrld} (h : WOk w) (a id : Int) : Stp w (wbringF w a id) := by
  unfold wbringF
  split
  · rename_i hh
    simp only [honestB, Bool.and_eq_true, Bool.not_eq_true', decide_eq_false_iff_not, decide_eq_true_eq] at hh
    split
    · rename_i n v hn hv
      have := hearF_ok v (h.fx.nodes n (List.mem_of_getElem? hn))
      exact Stp.put h hn (NS.hear n v) (fun u hu => by injection hu with hu; rw [← hu]; exact List.mem_of_getElem? hv) hh.1.2 this.1 this.2
    · exact Stp.refl h
  · exact Stp.refl h
theorem Stp.propose {w : Wrld} (h : WOk w) (id : Int) (p : Pay) : Stp w (wproposeF w id p) := by
  unfold wproposeF
  split
  · rename_i hh
    simp only [honestB, Bool.and_eq_true, Bool.not_eq_true', decide_eq_false_iff_not, decide_eq_true_eq] at hh
    split
    · rename_i n hn
      have := proposeF_ok p (h.fx.nodes n (List.mem_of_getElem? hn))
      exact Stp.put h hn (NS.propose n p) (fun u hu => by cases hu) hh.1.2 this.1 this.2
    · exact Stp.refl h
  · exact Stp.refl h
theorem Stp.do {w : Wrld} (h : WOk w) (e : Evt) : Stp w (doF w e) := by
  unfold doF
  split
  · exact Stp.tick h
  · split
    · exact Stp.propose h _ _
    · split
      · exact Stp.bring h _ _
      · split
        · split
          · rename_i hh
            simp only [Bool.and_eq_true] at hh
            exact Stp.send h hh.1
          · exact Stp.refl h
        · exact Stp.refl h
end Go.Wt

/- Parking of a world's room. -/
set_option linter.unusedVariables false
set_option linter.unusedSimpArgs false
namespace Go.Wt
open Go
variable {P : Program} {S : Nat → Prop} {ops : Array Oper} {st : St}
theorem parkCW_rd {G : Gh} {w : Go.World} {ω D : Owner} {e bd : Int} {nr : NRef} {l : List Vote} {cs : List Value} (h : Enc.rd G w ω (WrldS.mk e nr ⟨l, true⟩ bd) cs) :
    ∃ hv, Enc.rd (G.mv (Owner.sub ω [1, 1, 0]) D) w ω (WrldH.mk e nr ⟨l, hv⟩ bd) cs ∧ ∀ a k cap, hv = .slice a k cap → Tail (G.mv (Owner.sub ω [1, 1, 0]) D) w D a (k * Enc.size Vote) (cap * Enc.size Vote) := by
  obtain ⟨c1, c2, rfl, r1, ⟨c3, c4, rfl, r3, ⟨c5, c6, rfl, ⟨a, cap, h1, h2, h3, h4⟩, r6⟩⟩⟩ := h
  refine ⟨.slice a l.length cap, ⟨c1, _, rfl, r1, c3, _, rfl, Disl.mono Sh.mv (fun _ _ _ h => h) r3, c5, _, rfl, ⟨h1, a, cap, rfl, h2, h3.mono Sh.mv⟩, r6⟩, fun a' k cap' e => ?_⟩
  injection e with e1 e2 e3
  subst e1 e2 e3
  have := (h4 rfl).mono (Ow.mv_src (G := G) (w := w) (s := Owner.sub (Owner.sub (Owner.sub ω [1]) [1]) [0]) (d := D))
  simpa [Owner.sub] using this
theorem awp_parkCW {c : Code} {Q : Exit → St → Prop} {s o tb : Nat} {b : Bool} {e bd : Int} {nr : NRef} {l : List Vote} (hs : st.tm s = some (.v b)) (ho : st.ob o = .cell (WrldS.mk e nr ⟨l, true⟩ bd)) (htb : st.tm tb = some (.box o (IsLens.whole WrldS)))
    (k : ∀ hv, awp P S c Q (st.upd [(tb, some (.box o (IsLens.whole WrldH))), (s, some (.v (Room.mk (α := Vote) hv true)))] [(o, .cell (WrldH.mk e nr ⟨l, hv⟩ bd))])) : awp P S c Q st := fun G w a hr => by
  have hob := hr.objs o
  rw [ho] at hob
  obtain ⟨b', cs, e', k1, k2, k3, k4⟩ := hob
  obtain ⟨hv, p1, p2⟩ := parkCW_rd (D := (.tmp s, [])) k3
  have hts := hr.tmps s
  rw [hs] at hts
  have e2 : a.tmps.getD s undef = .bool b := RelV.bool hts
  have hk : Keep S G w (G.mv (.obj o, [1, 1, 0]) (.tmp s, [])) w := Keep.mv S (by simp) (by simp)
  refine wp_mono (k hv (G.mv (.obj o, [1, 1, 0]) (.tmp s, [])) w a ⟨hr.defers, hr.size, fun q => ?_, fun j => ?_⟩) fun e a'' w'' ⟨st'', G'', q1, q2, q3⟩ => ⟨st'', G'', q1, hk.trans q2, q3⟩
  · show RelT _ _ _ (orr (lk [(tb, _), (s, _)] q) (st.tm q)) (a.tmps.getD q undef)
    simp only [lk]
    by_cases eb : q = tb
    · subst eb
      rw [if_pos rfl]
      have := hr.tmps q
      rw [htb] at this
      exact this
    rw [if_neg eb]
    by_cases eq : q = s
    · subst eq
      rw [if_pos rfl, e2]
      exact ⟨[.bool b], ⟨⟨_, rfl, rfl⟩, fun _ a k cap e => p2 a k cap e⟩, rfl⟩
    · rw [if_neg eq]
      exact (hr.tmps q).mono Sh.mv (Ow.mv_other (by simp) (by simpa using eq)) (fun _ _ _ h => h)
  · show RelO _ _ j (orr (lk [(o, _)] j) (st.ob j))
    simp only [lk]
    by_cases ek : j = o
    · subst ek
      rw [if_pos rfl]
      exact ⟨b', cs, e', k1, k2, p1, fun i hi => by simp [Gh.mv, k4 i hi, relab]⟩
    · rw [if_neg ek]
      obtain ⟨T', hT⟩ := Obj.refs_all (st.ob j)
      exact (hr.objs j).pres Sh.mv (fun _ _ _ h => h) hT (PresO.mv (by simpa using Ne.symm ek) (by simp) (by simp) (by simp))
/-- A call that takes a world whose room is parked. -/
theorem op_callPW {d s r : Nat} {T pos aft} {f : FuncId} {post : List Operand} {av2 : List AV} {e bd : Int} {nr : NRef} {l : List Vote} {hv : Value} {ts : Array TypeId} {rt2 : List Nat} {ol ol' : List (Nat × Obj)} {res : AV}
    (hne : Nat.beq s r = false) (hB : fnB P f = true) (hs : st.tm s = some (.v (WrldH.mk e nr ⟨l, hv⟩ bd))) (hq : st.tm r = some (.v (Room.mk (α := Vote) hv true)))
    (ha2 : Args (st.upd [(s, some (.v (WrldS.mk e nr ⟨l, true⟩ bd))), (r, none), (r, none)] []) 0 post av2 rt2) (hct : CtO P f (.v (WrldS.mk e nr ⟨l, true⟩ bd) :: av2) ol res ol')
    (hol : OLs (st.upd [(s, some (.v (WrldS.mk e nr ⟨l, true⟩ bd))), (r, none), (r, none)] []) ol) (hok : OKs (keys ol) ol) (hok' : OKs (keys ol) ol') (hke : keysEq ol ol' = true)
    (hd2 : ∀ z ∈ av2, z.dis = z ∧ ∀ o ∈ z.refs, keys ol o = true) (her : ∀ o ∈ (AV.v (WrldS.mk e nr ⟨l, true⟩ bd)).refs, keys ol o = true) (hrr : ∀ o ∈ res.refs, keys ol o = true) (hn : Nat.blt d st.n = true) :
    OpOk P S ops ⟨some d, .call { callee := .value (.func f), args := (.tmp s :: post).toArray, argTypes := ts }, T, pos, aft, none⟩ ([s, r] ++ (s :: ([] ++ rt2))) (ol.map (·.1)) ([(d, some res), (s, some (AV.dis (.v (WrldS.mk e nr ⟨l, true⟩ bd))))] ++ [(s, some (.v (WrldS.mk e nr ⟨l, true⟩ bd))), (r, none), (r, none)]) ol' st := by
  refine OpOk.pre (op_callM (pre := []) hB (.nil _) (by simp [St.upd, lk, orr]) ha2 hct hol hok hok' hke argO0 hd2 her hrr hn) ?_
  intro st1 hag G w a hr
  exact ⟨_, unparkW (s := r) (fun e => by rw [e] at hne; simp at hne) hr (by rw [hag.tm s (by simp)]; exact hs) (by rw [hag.tm r (by simp)]; exact hq), Keep.mv S (by simp) (by simp)⟩
/-- Between the parts of a region: a variable is seen in another way. -/
theorem recell {o tb : Nat} {α β : Type} [Enc α] [Enc β] {x : α} {y : β} (ho : st.ob o = .cell x) (htb : st.tm tb = some (.box o (IsLens.whole α)))
    (hc : ∀ (G : Gh) (w : Go.World) (ω : Owner) (cs : List Value), Enc.rd G w ω x cs → Enc.rd G w ω y cs) :
    ∀ G w a, RelSt G w a st → ∃ (_ : Unit) (G' : Gh), RelSt G' w a (st.upd [(tb, some (.box o (IsLens.whole β)))] [(o, .cell y)]) ∧ Keep S G w G' w := fun G w a hr => by
  have hob := hr.objs o
  rw [ho] at hob
  obtain ⟨b', cs, e, k1, k2, k3, k4⟩ := hob
  refine ⟨(), G, ⟨hr.defers, hr.size, fun q => ?_, fun j => ?_⟩, Keep.refl _ _ _⟩
  · show RelT _ _ _ (orr (lk [(tb, _)] q) (st.tm q)) (a.tmps.getD q undef)
    simp only [lk]
    by_cases eb : q = tb
    · subst eb
      rw [if_pos rfl]
      have := hr.tmps q
      rw [htb] at this
      exact this
    · rw [if_neg eb]
      exact hr.tmps q
  · show RelO _ _ j (orr (lk [(o, _)] j) (st.ob j))
    simp only [lk]
    by_cases ek : j = o
    · subst ek
      rw [if_pos rfl]
      exact ⟨b', cs, e, k1, k2, hc _ _ _ _ k3, k4⟩
    · rw [if_neg ek]
      exact hr.objs j
theorem wrlH_fW {G : Gh} {w : Go.World} {ω : Owner} {e bd : Int} {nr : NRef} {l : List Vote} {hv : Value} {cs : List Value} (h : Enc.rd G w ω (WrldH.mk e nr ⟨l, hv⟩ bd) cs) : Enc.rd G w ω (WrldS.mk e nr ⟨l, false⟩ bd) cs := by
  obtain ⟨c1, c2, rfl, r1, ⟨c3, c4, rfl, r3, ⟨c5, c6, rfl, ⟨e0, a, cap, h1, h2, h3⟩, r6⟩⟩⟩ := h
  exact ⟨c1, _, rfl, r1, c3, _, rfl, r3, c5, _, rfl, ⟨a, cap, by rw [e0, h1], h2, h3, fun h => by cases h⟩, r6⟩
/-! ### Quiet epochs in worlds in form -/
theorem brN_ok {w : Wrld} (h : FineX w) (a : Int) : ∀ k, FineX (brN w a k)
  | 0 => h
  | k + 1 => wbringF_ok (brN_ok h a k)
theorem b4_ok {w : Wrld} (h : FineX w) (a : Int) : FineX (b4 w a) := brN_ok h a 4
theorem sprF_ok : ∀ (n a : Nat) {w : Wrld}, FineX w → FineX (sprF n a w)
  | 0, _, _, h => h
  | n + 1, a, w, h => by
    simp only [sprF]
    split
    · exact sprF_ok n (a + 1) (b4_ok h a)
    · exact h
theorem spread_ok {w : Wrld} (h : FineX w) : FineX (spreadF w) := sprF_ok 100 0 h
theorem bring_ep (w : Wrld) (a id : Int) : (wbringF w a id).epoch = w.epoch := by
  unfold wbringF
  split
  · split
    · exact (putF_eb _ _ _).1
    · rfl
  · rfl
theorem sprF_ep' : ∀ (n a : Nat) (w : Wrld), (sprF n a w).epoch = w.epoch
  | 0, _, _ => rfl
  | n + 1, a, w => by
    simp only [sprF]
    split
    · rw [sprF_ep' n (a + 1) (b4 w a)]
      unfold b4
      rw [bring_ep, bring_ep, bring_ep, bring_ep]
    · rfl
theorem calm_ok {w : Wrld} (h : FineX w) (p : Pay) : FineX (calmF w p) := spread_ok (wproposeF_ok (spread_ok (tickF_ok h)))
theorem calmFold_ok : ∀ (l : List Pay) {w : Wrld}, FineX w → FineX (l.foldl calmF w)
  | [], _, h => h
  | p :: l, _, h => calmFold_ok l (calm_ok h p)
theorem Stp.wok {w w' : Wrld} (h : Stp w w') : WOk w' := h.ok
theorem sprF_wok : ∀ (n a : Nat) {w : Wrld}, WOk w → WOk (sprF n a w)
  | 0, _, _, h => h
  | n + 1, a, w, h => by
    simp only [sprF]
    split
    · exact sprF_wok n (a + 1) (Stp.bring (Stp.bring (Stp.bring (Stp.bring h a 1).ok a 2).ok a 3).ok a 4).ok
    · exact h
theorem calm_wok {w : Wrld} (h : WOk w) (p : Pay) : WOk (calmF w p) := sprF_wok 100 0 (Stp.propose (sprF_wok 100 0 (Stp.tick h).ok) _ p).ok
theorem calmFold_wok : ∀ (l : List Pay) {w : Wrld}, WOk w → WOk (l.foldl calmF w)
  | [], _, h => h
  | p :: l, _, h => calmFold_wok l (calm_wok h p)
end Go.Wt

/- The reference: quiet epochs. -/
set_option linter.unusedVariables false
set_option linter.unusedSimpArgs false
namespace Go.Proofs.YtmdhfalfppkpeaaGreat
open Go Go.Wt
set_option maxHeartbeats 1000000 in
theorem sSpread_ct (w : Wrld) (hw : FineX w) : CtO Tryz.prog 76 [.v (sW w)] (so w) (.v (sW (spreadF w))) (so (spreadF w)) := by
  refine Ct.intro Tryz.func76 rfl rfl ?_
  all_goals refine awp_seq (awp_region (id := 0) ?_)
  all_goals refine awpOps_cons (op_boxm (o := 5) ty29_WrldS rfl rfl rfl rfl) ?_
  all_goals refine awpOps_cons (op_alloc (o := 6) z29_WrldS rfl rfl) ?_
  all_goals refine awpOps_nil ?_
  all_goals refine awp_seq (awp_seq (awp_region (id := 1) ?_))
  all_goals refine awpOps_cons (op_as rfl (Conv.of rfl) rfl) ?_
  all_goals refine awpOps_nil ?_
  refine awp_block ?_
  refine awp_loop' (fun n_ s => ∃ (a : Nat), ∃ (x : Wrld), ∃ (hx : FineX x), ∃ (he : sprF (100 - a) a x = spreadF w), ∃ (hn : n_ + a = 100), s = mkSt 21 [(1, .box 5 (IsLens.whole WrldS)), (2, .box 6 (IsLens.whole WrldS)), (3, .v (a : Int))] [(1, .arr (x.nodes.map sN)), (5, .cell (sW x)), (6, .cell WrldS.zero)]) (100) ⟨0, w, hw, rfl, by omega, rfl⟩ (Le.mk rfl (tlb rfl rfl rfl (tlb rfl rfl rfl (tle rfl (rfl) rfl tln))) (olk rfl (by exact obOkNs) (olk rfl (by exact obOkS rfl) (olk rfl (by exact obOkS0) oln))) (hS_sub (a := so w) rfl)) ?_
  rintro n_ s ⟨a, x, hx, he, hn, rfl⟩
  all_goals refine awp_seq (awp_seq (awp_region (id := 2) ?_))
  all_goals refine awpOps_cons (op_mv rfl (Conv.of rfl) rfl) ?_
  all_goals refine awpOps_cons (op_fab f29_2_WrldS rfl rfl) ?_
  all_goals refine awpOps_cons (op_ldl ty27_OListVote rfl rfl rfl) ?_
  all_goals refine awpOps_cons (op_len sl27 rfl rfl) ?_
  all_goals refine awpOps_cons (op_lss rfl rfl rfl) ?_
  all_goals refine awpOps_nil ?_
  refine awp_cond rfl (fun h => ?_) (fun h => ?_)
  · have ha : a < x.log.length := by simpa [sW] using h
    have hll := hx.ll
    refine awp_skip ?_
    refine awp_seq (awp_block ?_)
    all_goals refine awp_seq (awp_region (id := 4) ?_)
    all_goals refine awpOps_cons (op_as rfl (Conv.of rfl) rfl) ?_
    all_goals refine awpOps_nil ?_
    refine awp_toB (s' := mkSt 21 [(1, .box 5 (IsLens.whole WrldS)), (2, .box 6 (IsLens.whole WrldS)), (3, .v (a : Int))] [(1, .arr ((b4 x a).nodes.map sN)), (5, .cell (sW (b4 x a))), (6, .cell WrldS.zero)]) ?_ ?_
    · refine awp_block ?_
      refine awp_loop' (fun n_ s => ∃ (k : Nat), ∃ (hk : n_ + k = 4), s = mkSt 21 [(1, .box 5 (IsLens.whole WrldS)), (2, .box 6 (IsLens.whole WrldS)), (3, .v (a : Int)), (4, .v ((k : Int) + 1))] [(1, .arr ((brN x a k).nodes.map sN)), (5, .cell (sW (brN x a k))), (6, .cell WrldS.zero)]) (4) ⟨0, by omega, rfl⟩ (Le.mk rfl (tlb rfl rfl rfl (tlb rfl rfl rfl (tle rfl (rfl) rfl (tle rfl (rfl) rfl tln)))) (olk rfl (by exact obOkNs) (olk rfl (by exact obOkS rfl) (olk rfl (by exact obOkS0) oln))) (hS_sub (a := so w) rfl)) ?_
      rintro n_ s ⟨k, hk, rfl⟩
      all_goals refine awp_seq (awp_seq (awp_region (id := 5) ?_))
      all_goals refine awpOps_cons (op_mv rfl (Conv.of rfl) rfl) ?_
      all_goals refine awpOps_cons (op_leq rfl rfl rfl) ?_
      all_goals refine awpOps_nil ?_
      refine awp_cond rfl (fun h2 => ?_) (fun h2 => ?_)
      · have hk2 : k < 4 := by simp at h2; omega
        refine awp_skip ?_
        refine awp_seq (awp_block ?_)
        all_goals refine awp_region (id := 7) ?_
        all_goals refine awpOps_cons (op_ldm ty29_WrldS rfl rfl rfl) ?_
        all_goals refine awpOps_cons (op_mv rfl (Conv.of rfl) rfl) ?_
        all_goals refine awpOps_cons (op_mv rfl (Conv.of rfl) rfl) ?_
        all_goals refine awpOps_cons (op_callM (s := 16) (pre := []) fb117 (.nil _) rfl (.cons rfl (Conv.of rfl) (.cons rfl (Conv.of rfl) (.nil _))) (l21Bring_ct _ _ _ (brN_ok hx a k)) (olsk rfl ols0) (oksk (by exact obOkNs) oks0) (oksk (by exact obOkNs) oks0) rfl argO0 (argOk' rfl rfl (argOk' rfl rfl argO0)) (inOne rfl) (inOne rfl) rfl) ?_
        all_goals refine awpOps_cons (op_stm ty29_WrldS rfl rfl rfl) ?_
        all_goals refine awpOps_nil ?_
        all_goals refine awp_region (id := 6) ?_
        all_goals refine awpOps_cons (op_mv rfl (Conv.of rfl) rfl) ?_
        all_goals refine awpOps_cons (op_add rfl rfl rfl (by omega)) ?_
        all_goals refine awpOps_cons (op_as rfl (Conv.of rfl) rfl) ?_
        all_goals refine awpOps_nil ?_
        repeat first | refine nx_seq ?_ | refine nx_block ?_
        exact ⟨n_ - 1, _, by omega, ⟨k + 1, by omega, rfl⟩, Le.mk rfl (tlb rfl rfl rfl (tlb rfl rfl rfl (tle rfl (rfl) rfl (tle rfl (rfl) rfl tln)))) (olk rfl (by exact obOkNs) (olk rfl (by exact obOkS rfl) (olk rfl (by exact obOkS0) oln))) (hS_sub (a := so w) rfl)⟩
      · refine awp_exit ?_
        repeat refine ex_seq ?_
        refine ex_block ?_
        have hk4 : k = 4 := by simp at h2; omega
        subst hk4
        all_goals exact Le.mk rfl (tlb rfl rfl rfl (tlb rfl rfl rfl (tle rfl (rfl) rfl tln))) (olk rfl (by exact obOkNs) (olk rfl (by exact obOkS rfl) (olk rfl (by exact obOkS0) oln))) (hS_sub (a := so w) rfl)
    · all_goals refine awp_region (id := 3) ?_
      all_goals refine awpOps_cons (op_mv rfl (Conv.of rfl) rfl) ?_
      all_goals refine awpOps_cons (op_add rfl rfl rfl (by omega)) ?_
      all_goals refine awpOps_cons (op_as rfl (Conv.of rfl) rfl) ?_
      all_goals refine awpOps_nil ?_
      repeat first | refine nx_seq ?_ | refine nx_block ?_
      exact ⟨n_ - 1, _, by omega, ⟨a + 1, b4 x a, b4_ok hx a, (by rw [← he, show 100 - a = (100 - (a + 1)) + 1 by omega, sprF_go ha]), by omega, rfl⟩, Le.mk rfl (tlb rfl rfl rfl (tlb rfl rfl rfl (tle rfl (rfl) rfl tln))) (olk rfl (by exact obOkNs) (olk rfl (by exact obOkS rfl) (olk rfl (by exact obOkS0) oln))) (hS_sub (a := so w) rfl)⟩
  · refine awp_exit ?_
    repeat refine ex_seq ?_
    refine ex_block ?_
    have ha : ¬ a < x.log.length := by simpa [sW] using h
    rw [sprF_stop ha] at he
    subst he
    all_goals refine awp_seq (awp_region (id := 8) ?_)
    all_goals refine awpOps_cons (op_ldm ty29_WrldS rfl rfl rfl) ?_
    all_goals refine awpOps_cons (op_stm ty29_WrldS rfl rfl rfl) ?_
    all_goals refine awpOps_nil ?_
    refine awp_ret ?_
    repeat first | refine rt_seq ?_ | refine rt_block ?_
    exact ⟨_, _, res1C (ol := so (spreadF w)) ty29_WrldS rfl rfl (inOne rfl) (olk rfl obOkNs oln) (hS_sub rfl), rfl, rfl⟩
theorem sCalmBad_ct (w : Wrld) (pays : List Pay) (h : (worldOk w && decide (pays.length ≤ 30)) = false) : CtP Tryz.prog 28 [.v w, .v pays] (.v Wrld.zero) := by
  have hl : worldOk w = true → (30 : Int) < (pays.length : Int) := fun e => by
    rw [e] at h
    simp at h
    omega
  clear h
  refine Ct.intro Tryz.func28 rfl rfl ?_
  all_goals refine awp_seq (awp_region (id := 0) ?_)
  all_goals refine awpOps_cons (op_box (o := 0) ty29 rfl (Conv.of rfl) rfl rfl) ?_
  all_goals refine awpOps_cons (op_alloc (o := 1) z29 rfl rfl) ?_
  all_goals refine awpOps_nil ?_
  refine awp_seq (awp_seq_to (s' := mkSt 39 [(1, .v pays), (4, .box 1 (IsLens.whole Wrld)), (14, .v true)] [(1, .cell Wrld.zero)]) ?_ ?_)
  · all_goals refine awp_region (id := 1) ?_
    all_goals refine awpOps_cons (op_ld ty29 rfl rfl rfl) ?_
    all_goals refine awpOps_cons (op_call fb29 (.cons rfl (Conv.of rfl) (.nil _)) (sWorldOk_ct _) (argOk rfl rfl argOk0) rfl rfl) ?_
    all_goals refine awpOps_cons (op_not rfl rfl) ?_
    all_goals refine awpOps_cons (op_mv rfl (Conv.of rfl) rfl) ?_
    all_goals refine g_split (t := 10) rfl (fun h => ?_) (fun h => ?_)
    all_goals first | refine awpOps_cons (g_off rfl rfl rfl rfl rfl) ?_ | refine awpOps_cons (g_on rfl rfl rfl (op_mv rfl (Conv.of rfl) rfl)) ?_
    all_goals first | refine awpOps_cons (g_off rfl rfl rfl rfl rfl) ?_ | refine awpOps_cons (g_on rfl rfl rfl (op_len sl51 rfl rfl)) ?_
    all_goals first | refine awpOps_cons (g_off rfl rfl rfl rfl rfl) ?_ | refine awpOps_cons (g_on rfl rfl rfl (op_gtr rfl rfl rfl)) ?_
    all_goals refine awpOps_cons (op_pick rfl rfl rfl rfl) ?_
    all_goals refine awpOps_nil ?_
    all_goals exact Le.mk rfl (tle rfl (rfl) rfl (tlb rfl rfl rfl (tle rfl (by first | rfl | (show AV.v _ = AV.v _; simp_all; try omega)) rfl tln))) (olk rfl (by exact obOk_cell) oln) noS
  refine awp_cond rfl (fun h2 => ?_) (fun h2 => absurd h2 (by decide))
  all_goals refine awp_seq (awp_region (id := 2) ?_)
  all_goals refine awpOps_cons (op_build (.nil _) z29 rfl pl29 rfl) ?_
  all_goals refine awpOps_cons (op_st ty29 rfl rfl (Conv.of rfl) rfl) ?_
  all_goals refine awpOps_nil ?_
  refine awp_ret ?_
  repeat first | refine rt_seq ?_ | refine rt_block ?_
  exact finP (.rc ty29 rfl rfl) rfl rfl
set_option maxHeartbeats 4000000 in
theorem sCalmA_ct (w : Wrld) (pays : List Pay) (h : worldOk w = true) (hp : pays.length ≤ 30) : Ct Tryz.prog 28 [.v w, .v pays] noObj (fun r1 h1 => r1 = .v (sW (pays.foldl calmF w)) ∧ h1 = obs (so (pays.foldl calmF w))) := by
  have hf := (worldOk_iff.1 h).fx
  refine Ct.intro Tryz.func28 rfl rfl ?_
  all_goals refine awp_seq (awp_region (id := 0) ?_)
  all_goals refine awpOps_cons (op_box (o := 5) ty29 rfl (Conv.of rfl) rfl rfl) ?_
  all_goals refine awpOps_cons (op_alloc (o := 6) z29_WrldS rfl rfl) ?_
  all_goals refine awpOps_nil ?_
  refine awp_seq (awp_seq_to (s' := mkSt 39 [(1, .v pays), (2, .box 5 (IsLens.whole Wrld)), (4, .box 6 (IsLens.whole WrldS)), (14, .v false)] [(5, .cell w), (6, .cell WrldS.zero)]) ?_ ?_)
  · all_goals refine awp_region (id := 1) ?_
    all_goals refine awpOps_cons (op_ld ty29 rfl rfl rfl) ?_
    all_goals refine awpOps_cons (op_call fb29 (.cons rfl (Conv.of rfl) (.nil _)) (sWorldOk_ct _) (argOk rfl rfl argOk0) rfl rfl) ?_
    all_goals refine awpOps_cons (op_not rfl rfl) ?_
    all_goals refine awpOps_cons (op_mv rfl (Conv.of rfl) rfl) ?_
    all_goals refine g_split (t := 10) rfl (fun h => ?_) (fun h => ?_)
    all_goals first | refine awpOps_cons (g_off rfl rfl rfl rfl rfl) ?_ | refine awpOps_cons (g_on rfl rfl rfl (op_mv rfl (Conv.of rfl) rfl)) ?_
    all_goals first | refine awpOps_cons (g_off rfl rfl rfl rfl rfl) ?_ | refine awpOps_cons (g_on rfl rfl rfl (op_len sl51 rfl rfl)) ?_
    all_goals first | refine awpOps_cons (g_off rfl rfl rfl rfl rfl) ?_ | refine awpOps_cons (g_on rfl rfl rfl (op_gtr rfl rfl rfl)) ?_
    all_goals refine awpOps_cons (op_pick rfl rfl rfl rfl) ?_
    all_goals refine awpOps_nil ?_
    all_goals exact Le.mk rfl (tle rfl (rfl) rfl (tlb rfl rfl rfl (tlb rfl rfl rfl (tle rfl (by (show AV.v _ = AV.v _; simp_all; try omega)) rfl tln)))) (olk rfl (by exact obOk_cell) (olk rfl (by exact obOkS0) oln)) noS
  refine awp_cond rfl (fun h2 => absurd h2 (by decide)) (fun h2 => ?_)
  refine awp_skip ?_
  all_goals refine awp_seq (awp_region (id := 3) ?_)
  all_goals refine awpOps_cons (op_ld ty29 rfl rfl rfl) ?_
  refine awpOps_callO [] rfl fb75 (.cons rfl (Conv.of rfl) (.nil _)) (l21Copy_ct w hf) ols0 oks0 (argOk' rfl rfl argO0) rfl ?_
  rintro r h' ⟨rfl, rfl⟩
  refine ⟨so w, rfl, (fun o ho => by cases ho), fun o ho _ => ?_, oksk obOkNs oks0, fun o ho => ?_, ?_⟩
  · have : o = 1 := by simpa [keys, lk0] using ho
    subst this; rfl
  · have : o = 1 := by simpa using (show o ∈ [1] from ho)
    subst this; rfl
  all_goals refine awpOps_cons (op_alloc (o := 0) z29_WrldS rfl rfl) ?_
  all_goals refine awpOps_cons (op_stm ty29_WrldS rfl rfl rfl) ?_
  all_goals refine awpOps_nil ?_
  all_goals refine awp_seq (awp_seq (awp_region (id := 4) ?_))
  all_goals refine awpOps_cons (op_as rfl (Conv.of rfl) rfl) ?_
  all_goals refine awpOps_nil ?_
  refine awp_block ?_
  refine awp_loop' (fun n_ s => ∃ (k : Nat), ∃ (hn : n_ + k = pays.length), s = mkSt 39 [(1, .v pays), (4, .box 6 (IsLens.whole WrldS)), (5, .box 0 (IsLens.whole WrldS)), (6, .v (k : Int))] [(1, .arr (((pays.take k).foldl calmF w).nodes.map sN)), (0, .cell (sW ((pays.take k).foldl calmF w))), (6, .cell WrldS.zero)]) (pays.length) ⟨0, by omega, rfl⟩ (Le.mk rfl (tle rfl (rfl) rfl (tlb rfl rfl rfl (tlb rfl rfl rfl (tle rfl (rfl) rfl tln)))) (olk (by rfl) (by exact obOkNs) (olk (by rfl) (by exact obOkS rfl) (olk rfl (by exact obOkS0) oln))) noS) ?_
  rintro n_ s ⟨k, hn, rfl⟩
  have hfine : FineX ((pays.take k).foldl calmF w) := calmFold_ok _ hf
  all_goals refine awp_seq (awp_seq (awp_region (id := 5) ?_))
  all_goals refine awpOps_cons (op_mv rfl (Conv.of rfl) rfl) ?_
  all_goals refine awpOps_cons (op_mv rfl (Conv.of rfl) rfl) ?_
  all_goals refine awpOps_cons (op_len sl51 rfl rfl) ?_
  all_goals refine awpOps_cons (op_lss rfl rfl rfl) ?_
  all_goals refine awpOps_nil ?_
  refine awp_cond rfl (fun h => ?_) (fun h => ?_)
  · have hlt : k < pays.length := by simpa using h
    have hx : pays[k]? = some pays[k] := List.getElem?_eq_getElem hlt
    have hx' : pays[(k : Int).toNat]? = some pays[k] := hx
    refine awp_skip ?_
    refine awp_seq (awp_block ?_)
    have h1 := tickF_ok hfine
    have h2 := spread_ok h1
    have hep : 1 ≤ (spreadF (tickF ((pays.take k).foldl calmF w))).epoch ∧ (spreadF (tickF ((pays.take k).foldl calmF w))).epoch ≤ 30 := by
      have := hfine.ep
      have e1 : (spreadF (tickF ((pays.take k).foldl calmF w))).epoch = min (((pays.take k).foldl calmF w).epoch + 1) 30 := sprF_ep' 100 0 _
      omega
    all_goals refine awp_seq (awp_region (id := 7) ?_)
    all_goals refine awpOps_cons (op_ldm ty29_WrldS rfl rfl rfl) ?_
    all_goals refine awpOps_cons (op_callM (s := 24) (pre := []) fb77 (.nil _) rfl (.nil _) (l21Tick_ct _ hfine.fine) (olsk rfl ols0) (oksk (by exact obOkNs) oks0) (oksk (by exact obOkNs) oks0) rfl argO0 argO0 (inOne rfl) (inOne rfl) rfl) ?_
    all_goals refine awpOps_cons (op_callM (s := 25) (pre := []) fb76 (.nil _) rfl (.nil _) (sSpread_ct _ h1) (olsk rfl ols0) (oksk (by exact obOkNs) oks0) (oksk (by exact obOkNs) oks0) rfl argO0 argO0 (inOne rfl) (inOne rfl) rfl) ?_
    all_goals refine awpOps_cons (op_stm ty29_WrldS rfl rfl rfl) ?_
    all_goals refine awpOps_nil ?_
    refine awp_parkCW (s := 21) (o := 0) (tb := 5) rfl rfl rfl (fun hv => ?_)
    have hld := l3Leader_ct (spreadF (tickF ((pays.take k).foldl calmF w))).epoch (by omega)
    rw [lead_eq hep] at hld
    refine awp_seq ?_
    refine dg_start 9 ?_
    all_goals refine dg_cons (op_ld ty29_WrldH rfl rfl rfl) ?_
    all_goals refine dg_cons (op_fab f29_0_WrldH rfl rfl) ?_
    all_goals refine dg_cons (op_ld ty3 rfl rfl rfl) ?_
    all_goals refine dg_cons (op_call fb79 (.cons rfl (Conv.of rfl) (.nil _)) (hld) (argOk rfl rfl argOk0) rfl rfl) ?_
    all_goals refine dg_cons (op_mv rfl (Conv.of rfl) rfl) ?_
    all_goals refine dg_cons (op_mv rfl (Conv.of rfl) rfl) ?_
    all_goals refine dg_cons (op_ix sl51 rfl rfl rfl (by omega) hx') ?_
    all_goals refine dg_cons (op_ldr ty58 rfl rfl) ?_
    refine dg_cons (op_callPW (s := 27) (r := 21) (ol := so (spreadF (tickF ((pays.take k).foldl calmF w)))) rfl fb78 rfl rfl (.cons rfl (Conv.of rfl) (.cons rfl (Conv.of rfl) (.nil _))) (l21Propose_ct _ _ _ h2) (olsk rfl ols0) (oksk obOkNs oks0) (oksk obOkNs oks0) rfl (argOk' rfl rfl (argOk' rfl rfl argO0)) (inOne rfl) (inOne rfl) rfl) ?_
    refine dg_bar (fun _ : Unit => _) mixed rfl rfl (recell (o := 0) (tb := 5) (β := WrldS) rfl rfl (fun G w ω cs hh => wrlH_fW hh)) (fun _ => ?_)
    refine dg_cons (op_stm ty29_WrldS rfl rfl rfl) ?_
    refine dg_nil rfl ?_
    have h3 := wproposeF_ok (id := leader (spreadF (tickF ((pays.take k).foldl calmF w))).epoch) (p := pays[k]) h2
    all_goals refine awp_region (id := 9) ?_
    all_goals refine awpOps_cons (op_ldm ty29_WrldS rfl rfl rfl) ?_
    all_goals refine awpOps_cons (op_callM (s := 36) (pre := []) fb76 (.nil _) rfl (.nil _) (sSpread_ct _ h3) (olsk rfl ols0) (oksk (by exact obOkNs) oks0) (oksk (by exact obOkNs) oks0) rfl argO0 argO0 (inOne rfl) (inOne rfl) rfl) ?_
    all_goals refine awpOps_cons (op_stm ty29_WrldS rfl rfl rfl) ?_
    all_goals refine awpOps_nil ?_
    all_goals refine awp_region (id := 6) ?_
    all_goals refine awpOps_cons (op_mv rfl (Conv.of rfl) rfl) ?_
    all_goals refine awpOps_cons (op_add rfl rfl rfl (by omega)) ?_
    all_goals refine awpOps_cons (op_as rfl (Conv.of rfl) rfl) ?_
    all_goals refine awpOps_nil ?_
    repeat first | refine nx_seq ?_ | refine nx_block ?_
    exact ⟨n_ - 1, _, by omega, ⟨k + 1, by omega, rfl⟩, Le.mk rfl (tle rfl (rfl) rfl (tlb rfl rfl rfl (tlb rfl rfl rfl (tle rfl (rfl) rfl tln)))) (olk (by (rw [foldl_at calmF _ hx]; rfl)) (by exact obOkNs) (olk (by (rw [foldl_at calmF _ hx]; rfl)) (by exact obOkS rfl) (olk rfl (by exact obOkS0) oln))) noS⟩
  · refine awp_exit ?_
    repeat refine ex_seq ?_
    refine ex_block ?_
    have hk : pays.length ≤ k := by simpa using h
    have hp2 : (pays.take k).foldl calmF w = pays.foldl calmF w := by rw [take_end hk]
    rw [hp2] at hfine ⊢
    all_goals refine awp_seq (awp_region (id := 10) ?_)
    all_goals refine awpOps_cons (op_ldm ty29_WrldS rfl rfl rfl) ?_
    all_goals refine awpOps_cons (op_stm ty29_WrldS rfl rfl rfl) ?_
    all_goals refine awpOps_nil ?_
    refine awp_ret ?_
    repeat first | refine rt_seq ?_ | refine rt_block ?_
    exact ⟨_, _, res1C (ol := so (pays.foldl calmF w)) ty29_WrldS rfl rfl (inOne rfl) (olk rfl obOkNs oln) noS, rfl, rfl⟩
theorem sCalm_ct (w : Wrld) (pays : List Pay) : CtP Tryz.prog 28 [.v w, .v pays] (.v (worldCalmR w pays)) := by
  unfold worldCalmR
  cases h : worldOk w && decide (pays.length ≤ 30) with
  | false => exact sCalmBad_ct w pays h
  | true =>
    simp only [Bool.and_eq_true, decide_eq_true_eq] at h
    exact Ct.frz (sCalmA_ct w pays h.1 h.2) (frzS_one (big4 (calmFold_ok _ (worldOk_iff.1 h.1).fx).four))
end Go.Proofs.YtmdhfalfppkpeaaGreat
