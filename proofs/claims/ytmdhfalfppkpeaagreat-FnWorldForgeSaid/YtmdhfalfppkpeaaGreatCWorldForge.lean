/- The law FnWorldForge returns true at every input, and leaves its arguments as they were. No condition. -/
import Derived.Test.YtmdhfalfppkpeaaGreatM5
import Derived.Test.YtmdhfalfppkpeaaGreatRows
import Derived.WalkKit
import Derived.ProofKit
import Derived.OpenShut
import Derived.ShutString
import Derived.ChangeOld
import Derived.Below
import Derived.SizedLaws
import Derived.KernelRfl
/- A law: the bad one votes for what it likes, as itself. -/
set_option linter.unusedVariables false
set_option linter.unusedSimpArgs false
namespace Go.Proofs.YtmdhfalfppkpeaaGreat
open Go Go.Wt
set_option maxHeartbeats 4000000 in
theorem FnWorldForge_ct (code more : List UInt8) : CtP Tryz.prog 14 [.v code, .v more] (.v true) := by
  refine Ct.intro Tryz.func14 rfl rfl ?_
  refine awp_bigL 1 rfl (fun hmore => ?_)
  all_goals refine awp_seq (awp_region (id := 0) ?_)
  all_goals refine awpOps_cons (op_as rfl (Conv.of rfl) rfl) ?_
  all_goals refine awpOps_nil ?_
  refine awp_seq (awp_seq_to (s' := mkSt 98 [(0, .v code), (1, .v more), (19, .v (decide ((code.length : Int) > 1048576) || decide ((more.length : Int) > 1048576)))] []) ?_ ?_)
  · all_goals refine awp_region (id := 1) ?_
    all_goals refine awpOps_cons (op_mv rfl (Conv.of rfl) rfl) ?_
    all_goals refine awpOps_cons (op_len sl22 rfl rfl) ?_
    all_goals refine awpOps_cons (op_gtr rfl rfl rfl) ?_
    all_goals refine awpOps_cons (op_mv rfl (Conv.of rfl) rfl) ?_
    all_goals refine g_split (t := 15) rfl (fun h => ?_) (fun h => ?_)
    all_goals first | refine awpOps_cons (g_off rfl rfl rfl rfl rfl) ?_ | refine awpOps_cons (g_on rfl rfl rfl (op_mv rfl (Conv.of rfl) rfl)) ?_
    all_goals first | refine awpOps_cons (g_off rfl rfl rfl rfl rfl) ?_ | refine awpOps_cons (g_on rfl rfl rfl (op_len sl22 rfl rfl)) ?_
    all_goals first | refine awpOps_cons (g_off rfl rfl rfl rfl rfl) ?_ | refine awpOps_cons (g_on rfl rfl rfl (op_gtr rfl rfl rfl)) ?_
    all_goals refine awpOps_cons (op_pick rfl rfl rfl rfl) ?_
    all_goals refine awpOps_nil ?_
    all_goals exact Le.mk rfl (tle rfl (rfl) rfl (tle rfl (rfl) rfl (tle rfl (by (simp_all; try omega)) rfl tln))) oln noS
  refine awp_cond rfl (fun h => ?_) (fun h => ?_)
  · all_goals refine awp_seq (awp_region (id := 2) ?_)
    all_goals refine awpOps_cons (op_as rfl (Conv.of rfl) rfl) ?_
    all_goals refine awpOps_nil ?_
    refine awp_ret ?_
    repeat first | refine rt_seq ?_ | refine rt_block ?_
    exact finP (.v rfl (Conv.of rfl)) rfl rfl
  refine awp_skip ?_
  all_goals refine awp_seq (awp_region (id := 3) ?_)
  all_goals refine awpOps_cons (op_mv rfl (Conv.of rfl) rfl) ?_
  refine awpOps_callE (ι := Wrld × Evt) [] (fun i => .tup [.v i.1, .v i.2]) (fun _ => []) (fun _ => True) rfl fb46 (.cons rfl (Conv.of rfl) (.nil _)) (drawDo_ct code) (fun r h' ⟨w, e, e1, e2⟩ => ⟨(w, e), e1, e2, trivial⟩) ols0 oks0 (argOk' rfl rfl argO0) rfl (fun _ => rfl) (fun _ => oks0) (fun _ o ho => by cases ho) ?_
  rintro ⟨w, e⟩ -
  simp only
  all_goals refine awpOps_cons (op_mv rfl (Conv.of rfl) rfl) ?_
  all_goals refine awpOps_cons (op_ext rfl rfl rfl) ?_
  all_goals refine awpOps_cons (op_ext rfl rfl rfl) ?_
  all_goals refine awpOps_cons (op_alloc (o := 0) z29 rfl rfl) ?_
  all_goals refine awpOps_cons (op_alloc (o := 1) z78 rfl rfl) ?_
  all_goals refine awpOps_cons (op_st ty29 rfl rfl (Conv.of rfl) rfl) ?_
  all_goals refine awpOps_cons (op_st ty78 rfl rfl (Conv.of rfl) rfl) ?_
  all_goals refine awpOps_nil ?_
  all_goals refine awp_seq (awp_region (id := 4) ?_)
  all_goals refine awpOps_cons (op_ld ty29 rfl rfl rfl) ?_
  all_goals refine awpOps_cons (op_ld ty78 rfl rfl rfl) ?_
  all_goals refine awpOps_cons (op_call fb47 (.cons rfl (Conv.of rfl) (.cons rfl (Conv.of rfl) (.nil _))) (worldDo_ct w e) (argOk rfl rfl (argOk rfl rfl argOk0)) rfl rfl) ?_
  all_goals refine awpOps_cons (op_alloc (o := 2) z29 rfl rfl) ?_
  all_goals refine awpOps_cons (op_st ty29 rfl rfl (Conv.of rfl) rfl) ?_
  all_goals refine awpOps_nil ?_
  refine awp_seq (awp_seq_to (s' := mkSt 98 [(1, .v more), (5, .box 0 (IsLens.whole Wrld)), (6, .box 1 (IsLens.whole Evt)), (7, .box 2 (IsLens.whole Wrld)), (38, .v (!worldOk w))] [(0, .cell w), (1, .cell e), (2, .cell (worldDoR w e))]) ?_ ?_)
  · all_goals refine dr_start (id := 5) ?_
    all_goals refine dr_cons (op_ld ty29 rfl rfl rfl) ?_
    all_goals refine dr_cons (op_ld ty29 rfl rfl rfl) ?_
    all_goals refine dr_cons (op_ld ty78 rfl rfl rfl) ?_
    all_goals refine dr_cons (op_call fb48 (.cons rfl (Conv.of rfl) (.cons rfl (Conv.of rfl) (.nil _))) (sWorldDo_ct w e) (argOk rfl rfl (argOk rfl rfl argOk0)) rfl rfl) ?_
    all_goals refine dr_cons (op_call fb18 (.cons rfl (Conv.of rfl) (.cons rfl (Conv.of rfl) (.nil _))) (lwWorld_ct _ _) (argOk rfl rfl (argOk rfl rfl argOk0)) rfl rfl) ?_
    all_goals refine dr_cons (op_not rfl rfl) ?_
    all_goals refine dr_cons (op_mv rfl (Conv.of rfl) rfl) ?_
    all_goals refine dr_split (t := 34) rfl (fun h => ?_) (fun h => ?_)
    all_goals first | refine dr_cons (g_off rfl rfl rfl rfl rfl) ?_ | refine dr_cons (g_on rfl rfl rfl (op_ld ty29 rfl rfl rfl)) ?_
    all_goals first | refine dr_cons (g_off rfl rfl rfl rfl rfl) ?_ | refine dr_cons (g_on rfl rfl rfl (op_call fb29 (.cons rfl (Conv.of rfl) (.nil _)) (sWorldOk_ct _) (argOk rfl rfl argOk0) rfl rfl)) ?_
    all_goals first | refine dr_cons (g_off rfl rfl rfl rfl rfl) ?_ | refine dr_cons (g_on rfl rfl rfl (op_not rfl rfl)) ?_
    all_goals refine dr_cons (op_pick rfl rfl rfl rfl) ?_
    all_goals refine dr_nil mixed rfl ?_
    all_goals exact Le.mk rfl (tle rfl (rfl) rfl (tlb rfl rfl rfl (tlb rfl rfl rfl (tlb rfl rfl rfl (tle rfl (by first | rfl | (have e1 : ∀ b : Bool, Enc.dis b = b := fun _ => rfl; have e2 : ∀ y : Wrld, Enc.dis y = y := fun _ => rfl; have e3 : ∀ y : Evt, Enc.dis y = y := fun _ => rfl; show AV.v _ = AV.v _; simp_all; try (rw [Bool.eq_iff_iff]; simp))) rfl tln))))) (olk rfl (by exact obOk_cell) (olk rfl (by exact obOk_cell) (olk rfl (by exact obOk_cell) oln))) noS
  refine awp_cond rfl (fun h => ?_) (fun h => ?_)
  · all_goals refine awp_seq (dr_start (id := 6) ?_)
    all_goals refine dr_cons (op_ld ty29 rfl rfl rfl) ?_
    all_goals refine dr_cons (op_ld ty29 rfl rfl rfl) ?_
    all_goals refine dr_cons (op_ld ty78 rfl rfl rfl) ?_
    all_goals refine dr_cons (op_call fb48 (.cons rfl (Conv.of rfl) (.cons rfl (Conv.of rfl) (.nil _))) (sWorldDo_ct w e) (argOk rfl rfl (argOk rfl rfl argOk0)) rfl rfl) ?_
    all_goals refine dr_cons (op_call fb18 (.cons rfl (Conv.of rfl) (.cons rfl (Conv.of rfl) (.nil _))) (lwWorld_ct _ _) (argOk rfl rfl (argOk rfl rfl argOk0)) rfl rfl) ?_
    all_goals refine dr_cons (op_as rfl (Conv.of rfl) rfl) ?_
    all_goals refine dr_nil mixed rfl ?_
    all_goals refine awp_ret ?_
    all_goals refine finP (.v rfl (Conv.of rfl)) rfl ?_
    all_goals simp_all [FV.av]
  have hwo : worldOk w = true := not_f h
  have hW := worldOk_iff.1 hwo
  have hdo : ∀ e2 : Evt, worldDoR w e2 = doF w e2 := fun e2 => by unfold worldDoR; rw [if_pos hwo]
  refine awp_skip ?_
  have h4 := hW.fx.four
  have hll := hW.fx.ll
  have hep := hW.fx.ep
  all_goals refine awp_seq (awp_region (id := 7) ?_)
  all_goals refine awpOps_cons (op_mv rfl (Conv.of rfl) rfl) ?_
  refine awpOps_callE (ι := Vote) [] (fun i => .v i) (fun _ => []) (fun i => i.chain.length ≤ 8) rfl fb50 (.cons rfl (Conv.of rfl) (.nil _)) (drawVote_ct more) (fun r h' ⟨v, e1, e2, e3⟩ => ⟨v, e1, e2, e3⟩) ols0 oks0 (argOk' rfl rfl argO0) rfl (fun _ => rfl) (fun _ => oks0) (fun _ o ho => by cases ho) ?_
  rintro v0 hv0
  all_goals refine awpOps_cons (op_alloc (o := 3) z48 rfl rfl) ?_
  all_goals refine awpOps_cons (op_st ty48 rfl rfl (Conv.of rfl) rfl) ?_
  all_goals refine awpOps_nil ?_
  all_goals refine awp_seq (awp_region (id := 8) ?_)
  all_goals refine awpOps_cons (op_fab f29_3 rfl rfl) ?_
  all_goals refine awpOps_cons (op_ld ty3 rfl rfl rfl) ?_
  all_goals refine awpOps_cons (op_fab f48_0 rfl rfl) ?_
  all_goals refine awpOps_cons (op_st ty3 rfl rfl (Conv.of rfl) rfl) ?_
  all_goals refine awpOps_nil ?_
  generalize hv : Vote.mk w.bad v0.chain = v
  have hvb : v.by_ = w.bad := by rw [← hv]
  have k1 := worldDo_ct w ⟨4, 0, 0, .zero, v⟩
  have e1 : doF w ⟨4, 0, 0, .zero, v⟩ = if voteOk v then sendF w v else w := by
    simp only [doF]
    rw [if_neg (by decide), if_neg (by decide), if_neg (by decide), if_pos (by decide)]
    simp [hvb]
  rw [hdo, e1] at k1
  refine awp_le (st' := mkSt 98 [(5, .box 0 (IsLens.whole Wrld)), (8, .box 3 (IsLens.whole Vote))] [(0, .cell w), (3, .cell v)]) (Le.mk rfl (tlb rfl rfl rfl (tlb rfl rfl rfl tln)) (olk rfl (by exact obOk_cell) (olk (by rfl) (by exact obOk_cell) oln)) noS) ?_
  all_goals refine awp_seq (awp_region (id := 9) ?_)
  all_goals refine awpOps_cons (op_ld ty29 rfl rfl rfl) ?_
  all_goals refine awpOps_cons (op_ld ty48 rfl rfl rfl) ?_
  all_goals refine awpOps_cons (op_build (.cons f78_0 rfl (Conv.of rfl) (.cons f78_4 rfl (Conv.of rfl) (.nil _))) z78 rfl pl78 rfl) ?_
  all_goals refine awpOps_cons (op_call fb47 (.cons rfl (Conv.of rfl) (.cons rfl (Conv.of rfl) (.nil _))) (k1) (argOk rfl rfl (argOk rfl rfl argOk0)) rfl rfl) ?_
  all_goals refine awpOps_cons (op_alloc (o := 4) z29 rfl rfl) ?_
  all_goals refine awpOps_cons (op_st ty29 rfl rfl (Conv.of rfl) rfl) ?_
  all_goals refine awpOps_nil ?_
  all_goals refine awp_seq (awp_region (id := 10) ?_)
  all_goals refine awpOps_cons (op_fab f29_2 rfl rfl) ?_
  all_goals refine awpOps_cons (op_ld ty27 rfl rfl rfl) ?_
  all_goals refine awpOps_cons (op_len sl27 rfl rfl) ?_
  all_goals refine awpOps_cons (op_as rfl (Conv.of rfl) rfl) ?_
  all_goals refine awpOps_nil ?_
  refine awp_seq (awp_seq_to (s' := mkSt 98 [(5, .box 0 (IsLens.whole Wrld)), (8, .box 3 (IsLens.whole Vote)), (9, .box 4 (IsLens.whole Wrld)), (10, .v (w.log.length : Int)), (68, .v (!voteOk v || decide ((w.log.length : Int) = 80) || decide (v ∈ w.log)))] [(0, .cell w), (3, .cell v), (4, .cell (if voteOk v then sendF w v else w))]) ?_ ?_)
  · all_goals refine awp_region (id := 11) ?_
    all_goals refine awpOps_cons (op_ld ty48 rfl rfl rfl) ?_
    all_goals refine awpOps_cons (op_call fb51 (.cons rfl (Conv.of rfl) (.nil _)) (voteOk_ct _) (argOk rfl rfl argOk0) rfl rfl) ?_
    all_goals refine awpOps_cons (op_not rfl rfl) ?_
    all_goals refine awpOps_cons (op_mv rfl (Conv.of rfl) rfl) ?_
    all_goals refine g_split (t := 59) rfl (fun h => ?_) (fun h => ?_)
    all_goals first | refine awpOps_cons (g_off rfl rfl rfl rfl rfl) ?_ | refine awpOps_cons (g_on rfl rfl rfl (op_mv rfl (Conv.of rfl) rfl)) ?_
    all_goals first | refine awpOps_cons (g_off rfl rfl rfl rfl rfl) ?_ | refine awpOps_cons (g_on rfl rfl rfl (op_eql rfl rfl rfl)) ?_
    all_goals refine awpOps_cons (op_pick rfl rfl rfl rfl) ?_
    all_goals refine awpOps_cons (op_mv rfl (Conv.of rfl) rfl) ?_
    all_goals first | refine g_lit (t := 63) (b := true) rfl ?_ | refine g_split (t := 63) rfl (fun h => ?_) (fun h => ?_)
    all_goals first | refine awpOps_cons (g_off rfl rfl rfl rfl rfl) ?_ | refine awpOps_cons (g_on rfl rfl rfl (op_fab f29_2 rfl rfl)) ?_
    all_goals first | refine awpOps_cons (g_off rfl rfl rfl rfl rfl) ?_ | refine awpOps_cons (g_on rfl rfl rfl (op_ld ty27 rfl rfl rfl)) ?_
    all_goals first | refine awpOps_cons (g_off rfl rfl rfl rfl rfl) ?_ | refine awpOps_cons (g_on rfl rfl rfl (op_ld ty48 rfl rfl rfl)) ?_
    all_goals first | refine awpOps_cons (g_off rfl rfl rfl rfl rfl) ?_ | refine awpOps_cons (g_on rfl rfl rfl (op_call fb25 (.cons rfl (Conv.of rfl) (.cons rfl (Conv.of rfl) (.nil _))) (lwHas_ct _ _) (argOk rfl rfl (argOk rfl rfl argOk0)) rfl rfl)) ?_
    all_goals refine awpOps_cons (op_pick rfl rfl rfl rfl) ?_
    all_goals refine awpOps_nil ?_
    all_goals exact Le.mk rfl (tlb rfl rfl rfl (tlb rfl rfl rfl (tlb rfl rfl rfl (tle rfl (rfl) rfl (tle rfl (by (have e1 : ∀ b : Bool, Enc.dis b = b := fun _ => rfl; show AV.v _ = AV.v _; simp_all; try omega)) rfl tln))))) (olk rfl (by exact obOk_cell) (olk rfl (by exact obOk_cell) (olk rfl (by exact obOk_cell) oln))) noS
  refine awp_cond rfl (fun h => ?_) (fun h => ?_)
  · have e2 : (if voteOk v then sendF w v else w) = w := by
      split
      · rename_i q
        unfold sendF
        rw [if_neg]
        intro q2
        simp only [Bool.and_eq_true, Bool.not_eq_true', decide_eq_false_iff_not, decide_eq_true_eq] at q2
        have : voteOk v = false ∨ (w.log.length : Int) = 80 ∨ v ∈ w.log := by
          have : (voteOk v = false ∨ (w.log.length : Int) = 80) ∨ v ∈ w.log := by simpa using h
          rcases this with (r | r) | r
          · exact .inl r
          · exact .inr (.inl r)
          · exact .inr (.inr r)
        rcases this with r | r | r
        · rw [q] at r; cases r
        · omega
        · exact q2.1 r
      · rfl
    rw [e2]
    have kw := lwWorld_ct w w
    rw [show decide (w = w) = true from decide_eq_true rfl] at kw
    all_goals refine awp_seq (awp_region (id := 12) ?_)
    all_goals refine awpOps_cons (op_ld ty29 rfl rfl rfl) ?_
    all_goals refine awpOps_cons (op_ld ty29 rfl rfl rfl) ?_
    all_goals refine awpOps_cons (op_call fb18 (.cons rfl (Conv.of rfl) (.cons rfl (Conv.of rfl) (.nil _))) (kw) (argOk rfl rfl (argOk rfl rfl argOk0)) rfl rfl) ?_
    all_goals refine awpOps_cons (op_as rfl (Conv.of rfl) rfl) ?_
    all_goals refine awpOps_nil ?_
    refine awp_ret ?_
    repeat first | refine rt_seq ?_ | refine rt_block ?_
    exact finP (.v rfl (Conv.of rfl)) rfl rfl
  · have hq : voteOk v = true ∧ ¬ ((w.log.length : Int) = 80) ∧ v ∉ w.log := by
      have : (voteOk v = true ∧ ¬ ((w.log.length : Int) = 80)) ∧ v ∉ w.log := by simpa using h
      exact ⟨this.1.1, this.1.2, this.2⟩
    have e2 : (if voteOk v then sendF w v else w) = { w with log := w.log ++ [v] } := by
      rw [if_pos hq.1]
      unfold sendF
      rw [if_pos]
      simp only [Bool.and_eq_true, Bool.not_eq_true', decide_eq_false_iff_not, decide_eq_true_eq]
      exact ⟨hq.2.2, by omega⟩
    rw [e2]
    have kw := lwWorld_ct w w
    rw [show decide (w = w) = true from decide_eq_true rfl] at kw
    have kw' : CtP Tryz.prog 18 [.v ({ w with log := (w.log ++ [v]).take ((w.log.length : Nat) : Int).toNat } : Wrld), .v w] (.v true) := by
      rw [show (w.log ++ [v]).take ((w.log.length : Nat) : Int).toNat = w.log by simp]; exact kw
    have kv := lwVote_ct v v
    rw [show decide (v = v) = true from decide_eq_true rfl] at kv
    have hlast : (w.log ++ [v])[((w.log.length : Nat) : Int).toNat]? = some v := by simp
    refine awp_skip ?_
    all_goals refine awp_seq (awp_region (id := 13) ?_)
    all_goals refine awpOps_cons (op_ld ty29 rfl rfl rfl) ?_
    all_goals refine awpOps_cons (op_alloc (o := 5) z29 rfl rfl) ?_
    all_goals refine awpOps_cons (op_st ty29 rfl rfl (Conv.of rfl) rfl) ?_
    all_goals refine awpOps_nil ?_
    all_goals refine awp_seq (awp_region (id := 14) ?_)
    all_goals refine awpOps_cons (op_fab f29_2 rfl rfl) ?_
    all_goals refine awpOps_cons (op_ld ty27 rfl rfl rfl) ?_
    all_goals refine awpOps_cons (op_mv rfl (Conv.of rfl) rfl) ?_
    all_goals refine awpOps_cons (op_slh sl27 rfl rfl rfl ⟨by omega, by simp⟩) ?_
    all_goals refine awpOps_cons (op_fab f29_2 rfl rfl) ?_
    all_goals refine awpOps_cons (op_st ty27 rfl rfl (Conv.of rfl) rfl) ?_
    all_goals refine awpOps_nil ?_
    all_goals refine awp_seq (dr_start (id := 15) ?_)
    all_goals refine dr_cons (op_fab f29_2 rfl rfl) ?_
    all_goals refine dr_cons (op_ld ty27 rfl rfl rfl) ?_
    all_goals refine dr_cons (op_len sl27 rfl rfl) ?_
    all_goals refine dr_cons (op_mv rfl (Conv.of rfl) rfl) ?_
    all_goals refine dr_cons (op_add rfl rfl rfl (by omega)) ?_
    all_goals refine dr_cons (op_eql rfl rfl rfl) ?_
    all_goals refine dr_cons (op_mv rfl (Conv.of rfl) rfl) ?_
    all_goals refine dr_split (t := 84) rfl (fun h => ?_) (fun h => ?_)
    all_goals first | refine dr_cons (g_off rfl rfl rfl rfl rfl) ?_ | refine dr_cons (g_on rfl rfl rfl (op_fab f29_2 rfl rfl)) ?_
    all_goals first | refine dr_cons (g_off rfl rfl rfl rfl rfl) ?_ | refine dr_cons (g_on rfl rfl rfl (op_ld ty27 rfl rfl rfl)) ?_
    all_goals first | refine dr_cons (g_off rfl rfl rfl rfl rfl) ?_ | refine dr_cons (g_on rfl rfl rfl (op_mv rfl (Conv.of rfl) rfl)) ?_
    all_goals first | refine dr_cons (g_off rfl rfl rfl rfl rfl) ?_ | refine dr_cons (g_on rfl rfl rfl (op_ix sl27 rfl rfl rfl (by omega) hlast)) ?_
    all_goals first | refine dr_cons (g_off rfl rfl rfl rfl rfl) ?_ | refine dr_cons (g_on rfl rfl rfl (op_ldr ty48 rfl rfl)) ?_
    all_goals first | refine dr_cons (g_off rfl rfl rfl rfl rfl) ?_ | refine dr_cons (g_on rfl rfl rfl (op_ld ty48 rfl rfl rfl)) ?_
    all_goals first | refine dr_cons (g_off rfl rfl rfl rfl rfl) ?_ | refine dr_cons (g_on rfl rfl rfl (op_call fb41 (.cons rfl (Conv.of rfl) (.cons rfl (Conv.of rfl) (.nil _))) (kv) (argOk rfl rfl (argOk rfl rfl argOk0)) rfl rfl)) ?_
    all_goals refine dr_cons (op_pick rfl rfl rfl rfl) ?_
    all_goals refine dr_cons (op_mv rfl (Conv.of rfl) rfl) ?_
    all_goals first | refine dr_lit (t := 93) (b := true) rfl ?_ | refine dr_lit (t := 93) (b := false) rfl ?_
    all_goals first | refine dr_cons (g_off rfl rfl rfl rfl rfl) ?_ | refine dr_cons (g_on rfl rfl rfl (op_ld ty29 rfl rfl rfl)) ?_
    all_goals first | refine dr_cons (g_off rfl rfl rfl rfl rfl) ?_ | refine dr_cons (g_on rfl rfl rfl (op_ld ty29 rfl rfl rfl)) ?_
    all_goals first | refine dr_cons (g_off rfl rfl rfl rfl rfl) ?_ | refine dr_cons (g_on rfl rfl rfl (op_call fb18 (.cons rfl (Conv.of rfl) (.cons rfl (Conv.of rfl) (.nil _))) (kw') (argOk rfl rfl (argOk rfl rfl argOk0)) rfl rfl)) ?_
    all_goals refine dr_cons (op_pick rfl rfl rfl rfl) ?_
    all_goals refine dr_cons (op_as rfl (Conv.of rfl) rfl) ?_
    all_goals refine dr_nil mixed rfl ?_
    all_goals refine awp_ret ?_
    all_goals refine finP (.v rfl (Conv.of rfl)) rfl ?_
    all_goals simp_all [FV.av]
end Go.Proofs.YtmdhfalfppkpeaaGreat

/- The law FnWorldForge returns true at every input, and leaves its arguments as they were. No condition. -/
set_option linter.unusedVariables false
namespace Go.Proofs.YtmdhfalfppkpeaaGreat.fnWorldForge
open Go Go.ChangeShapes Go.WideShapes Go.ChangeAt Go.RowKit
theorem own : ownKnob Tryz.prog.godebug = none := by kernel_rfl
theorem laidOut : laidOutB Tryz.prog = true := by kernel_rfl
set_option maxRecDepth 100000 in
theorem lifted (os : Os) (started : os.Started) (H : Type) (enc : TypeId × Value → H) :
    ReturnsInHanded {} Tryz.checked os 14 .any (Rows.fnWorldForgeSpec.pre6 enc Tryz.prog Tryz.f14 Rows.fnWorldForgeRow.domain false) (Rows.fnWorldForgeSpec.post enc Tryz.prog Tryz.f14 false true false false) := by
  refine returnsInHanded_of_change_sized (C := Tryz.checked) own started (by kernel_rfl) Tryz.func14
    (ChangeSpec.witness6 (enc := enc) (C := Tryz.checked) false ⟨#[], #[.slice none 0 0, .slice none 0 0], []⟩ 8 (by kernel_rfl) (by kernel_rfl) (by kernel_rfl) (by kernel_rfl)) ?_
  intro W base args ds gs before hval0 hW hcnd hsz0 _
  have hsz : (DataW.weightsEach Tryz.prog (Tryz.f14.params.toList ++ Rows.fnWorldForgeSpec.plain.varTypes Tryz.prog) (ds ++ gs)).all (· ≤ reachBytes) = true := hsz0
  have hval : ∀ (j : Nat) t v, Tryz.f14.params[j]? = some t → args[j]? = some v → Value.okWide Tryz.prog W .any base t v := hval0
  have hW' := hW
  obtain ⟨p, q, hA0, hV, rfl, hfz, hnd⟩ := hW
  have hA : DataW.TrodAll enc Tryz.prog W 0 (fun _ => true) true Tryz.f14.params.toList args.toList ds p := hA0
  rw [Tryz.params14] at hA hval hsz
  obtain ⟨v0, vs0, d0, ds0, p0, q0, hargs, rfl, rfl, h0, r0⟩ := trodAll_cons hA
  obtain ⟨v1, vs1, d1, ds1, p1, q1, rfl, rfl, rfl, h1, r1⟩ := trodAll_cons r0
  obtain ⟨rfl, rfl, rfl⟩ := trodAll_nil r1
  obtain rfl : args = #[v0, v1] := by cases args; simp_all
  obtain ⟨rfl, rfl⟩ := trodVars_none hV
  obtain ⟨a0, len0, cap0, rfl⟩ := okWide_slice Tryz.underlying22 (hval 0 22 v0 rfl rfl)
  have k0 := h0
  have lt0 : ∀ x ∈ p0, x.block < W.heap.size := by obtain ⟨m, hm⟩ := k0; exact DataW.trod_lt m _ _ _ hm
  obtain ⟨z0, w0⟩ := Go.Wt.rowOf (fun _ => rfl) Tryz.underlying22 Tryz.underlying5 (by kernel_rfl) h0
  have y0 := Go.Wt.lenOf hsz (j := 0) (t := 22) rfl rfl Tryz.underlying22 Tryz.underlying5 (by kernel_rfl) (by kernel_rfl) h0
  obtain ⟨a1, len1, cap1, rfl⟩ := okWide_slice Tryz.underlying22 (hval 1 22 v1 rfl rfl)
  have k1 := h1
  have lt1 : ∀ x ∈ p1, x.block < W.heap.size := by obtain ⟨m, hm⟩ := k1; exact DataW.trod_lt m _ _ _ hm
  obtain ⟨z1, w1⟩ := Go.Wt.rowOf (fun _ => rfl) Tryz.underlying22 Tryz.underlying5 (by kernel_rfl) h1
  have y1 := Go.Wt.lenOf hsz (j := 1) (t := 22) rfl rfl Tryz.underlying22 Tryz.underlying5 (by kernel_rfl) (by kernel_rfl) h1
  clear hA0 hval0 hsz0 hsz
  refine (Go.Wt.row2 FnWorldForge_ct W w0 y0 w1 y1).mono fun e W' ⟨he, bel⟩ => ?_
  subst he
  exact ⟨_, rfl, _, _, _, [], _, [], hW', trodAll_mk1 (shut_bool Tryz.underlying4 _), (trodAll_cons_mk (Below.trod laidOut (by kernel_rfl) (of_decide_eq_true (by kernel_rfl)) k0 bel lt0) (trodAll_cons_mk (Below.trod laidOut (by kernel_rfl) (of_decide_eq_true (by kernel_rfl)) k1 bel lt1) trodAll_mk0)), rfl, bel.frame _, fun h => by cases h⟩
theorem over : Rows.fnWorldForgeRow.holds Tryz.pinned (OpenSpec.ofChange Rows.fnWorldForgeSpec) :=
  OpenClaim.holds_of_wide 14 Tryz.f14 rfl rfl rfl rfl rfl rfl rfl ⟨rfl, rfl, rfl, rfl, rfl⟩ rfl rfl rfl rfl rfl (by kernel_rfl) Tryz.func14 (by kernel_rfl)
    (of_decide_eq_true (by kernel_rfl)) (by unfold Func.isWrapper; first | (rw [if_pos (by decide +kernel)]; kernel_rfl) | (rw [if_neg (by decide +kernel)]; exact ⟨rfl, rfl⟩))
    (fun os started H enc _ => lifted os started H enc)
end Go.Proofs.YtmdhfalfppkpeaaGreat.fnWorldForge
namespace Go.Proofs.YtmdhfalfppkpeaaGreat
theorem fnWorldForge_holds : Rows.FnWorldForgeSaid := fnWorldForge.over
#print axioms fnWorldForge_holds
end Go.Proofs.YtmdhfalfppkpeaaGreat
