/- Part 4 of the proof: texts one behind the other. -/
import Derived.Test.YtompnmkpgffhkaaGreatM3
import Derived.Laws.Small
import Derived.Below
import Derived.SizedLaws
import Derived.ChangeSlices
/- The reference: a node hears. -/
set_option linter.unusedVariables false
set_option linter.unusedSimpArgs false
namespace Go.Proofs.YtompnmkpgffhkaaGreat
open Go Go.Wt
set_option maxHeartbeats 2000000 in
theorem l12Try_ct (n : Nod) (hn : Gd n.seen) (he : 0 ≤ n.epoch ∧ n.epoch ≤ 30) : CtP Tryz.prog 169 [.v (sN n)] (res3S (tryAllS n)) := by
  have htip := hn.tipS
  have hlen := hn.len
  refine Ct.intro Tryz.func169 rfl rfl ?_
  all_goals refine awp_seq (awp_region (id := 0) ?_)
  all_goals refine awpOps_cons (op_boxm (o := 0) ty39_NodS rfl rfl rfl rfl) ?_
  all_goals refine awpOps_cons (op_alloc (o := 1) z39_NodS rfl rfl) ?_
  all_goals refine awpOps_cons (op_alloc (o := 2) z48 rfl rfl) ?_
  all_goals refine awpOps_cons (op_as rfl (Conv.of rfl) rfl) ?_
  all_goals refine awpOps_nil ?_
  refine awp_seq (awp_seq_to (s' := mkSt 51 [(1, .box 0 (IsLens.whole NodS)), (2, .box 1 (IsLens.whole NodS)), (3, .box 2 (IsLens.whole Vote)), (4, .v false), (16, .v (decide (n.epoch = 0) || decide (n.voted = n.epoch)))] [(0, .cell (sN n)), (1, .cell NodS.zero), (2, .cell Vote.zero)]) ?_ ?_)
  · all_goals refine awp_region (id := 1) ?_
    all_goals refine awpOps_cons (op_fab f39_1_NodS rfl rfl) ?_
    all_goals refine awpOps_cons (op_ld ty3 rfl rfl rfl) ?_
    all_goals refine awpOps_cons (op_eql rfl rfl rfl) ?_
    all_goals refine awpOps_cons (op_mv rfl (Conv.of rfl) rfl) ?_
    all_goals refine g_split (t := 10) rfl (fun h => ?_) (fun h => ?_)
    all_goals first | refine awpOps_cons (g_off rfl rfl rfl rfl rfl) ?_ | refine awpOps_cons (g_on rfl rfl rfl (op_fab f39_2_NodS rfl rfl)) ?_
    all_goals first | refine awpOps_cons (g_off rfl rfl rfl rfl rfl) ?_ | refine awpOps_cons (g_on rfl rfl rfl (op_ld ty3 rfl rfl rfl)) ?_
    all_goals first | refine awpOps_cons (g_off rfl rfl rfl rfl rfl) ?_ | refine awpOps_cons (g_on rfl rfl rfl (op_fab f39_1_NodS rfl rfl)) ?_
    all_goals first | refine awpOps_cons (g_off rfl rfl rfl rfl rfl) ?_ | refine awpOps_cons (g_on rfl rfl rfl (op_ld ty3 rfl rfl rfl)) ?_
    all_goals first | refine awpOps_cons (g_off rfl rfl rfl rfl rfl) ?_ | refine awpOps_cons (g_on rfl rfl rfl (op_eql rfl rfl rfl)) ?_
    all_goals refine awpOps_cons (op_pick rfl rfl rfl rfl) ?_
    all_goals refine awpOps_nil ?_
    all_goals exact Le.mk rfl (tlb rfl rfl rfl (tlb rfl rfl rfl (tlb rfl rfl rfl (tle rfl (rfl) rfl (tle rfl (by (clear htip; simp_all [sN]; try (rw [Bool.eq_iff_iff]; simp))) rfl tln))))) (olk rfl (by exact obOkN) (olk rfl (by exact obOkN) (olk rfl (by exact obOk_cell) oln))) noS
  refine awp_cond rfl (fun h => ?_) (fun h => ?_)
  · all_goals refine awp_seq (awp_region (id := 2) ?_)
    all_goals refine awpOps_cons (op_ldm ty39_NodS rfl rfl rfl) ?_
    all_goals refine awpOps_cons (op_build (.nil _) z48 rfl pl48 rfl) ?_
    all_goals refine awpOps_cons (op_stm ty39_NodS rfl rfl rfl) ?_
    all_goals refine awpOps_cons (op_st ty48 rfl rfl (Conv.of rfl) rfl) ?_
    all_goals refine awpOps_cons (op_as rfl (Conv.of rfl) rfl) ?_
    all_goals refine awpOps_nil ?_
    refine awp_ret ?_
    repeat first | refine rt_seq ?_ | refine rt_block ?_
    refine ⟨_, _, resNM (ol := []) (.cell ty39_NodS rfl rfl (.keep (.rc ty48 rfl rfl) (.keep (.v rfl (Conv.of rfl)) (.nil _)))) rfl (fun o ho => absurd (show o ∈ ([] : List Nat) from ho) (by simp)) oln noS, ?_, rfl⟩
    rw [tryAllS, h, if_pos rfl]; rfl
  · have hres : tryAllS n = tryS n (tipOfS n.seen).length n.seen := by rw [tryAllS, h]; rfl
    refine awp_skip ?_
    all_goals refine awp_seq (awp_region (id := 3) ?_)
    all_goals refine awpOps_cons (op_fab f39_3_NodS rfl rfl) ?_
    all_goals refine awpOps_cons (op_ldl ty27_OListVote rfl rfl rfl) ?_
    all_goals refine awpOps_cons (op_call fb159 (.cons rfl (Conv.of rfl) (.nil _)) (l11Tip_ct _ hn.l hn.v) (argOk rfl rfl argOk0) rfl rfl) ?_
    all_goals refine awpOps_cons (op_len sl35 rfl rfl) ?_
    all_goals refine awpOps_cons (op_as rfl (Conv.of rfl) rfl) ?_
    all_goals refine awpOps_nil ?_
    all_goals refine awp_seq (awp_seq (awp_region (id := 4) ?_))
    all_goals refine awpOps_cons (op_as rfl (Conv.of rfl) rfl) ?_
    all_goals refine awpOps_nil ?_
    refine awp_block ?_
    refine awp_loop' (fun n_ s => ∃ (k : Nat), ∃ (hk : n_ + k = n.seen.length), ∃ (hall : tryS n (tipOfS n.seen).length (n.seen.drop k) = tryAllS n), s = mkSt 51 [(1, .box 0 (IsLens.whole NodS)), (2, .box 1 (IsLens.whole NodS)), (3, .box 2 (IsLens.whole Vote)), (5, .v ((tipOfS n.seen).length : Int)), (6, .v (k : Int))] [(0, .cell (sN n)), (1, .cell NodS.zero), (2, .cell Vote.zero)]) (n.seen.length) ⟨0, by omega, by rw [hres]; rfl, rfl⟩ (Le.mk rfl (tlb rfl rfl rfl (tlb rfl rfl rfl (tlb rfl rfl rfl (tle rfl (rfl) rfl (tle rfl (rfl) rfl tln))))) (olk rfl (by exact obOkN) (olk rfl (by exact obOkN) (olk rfl (by exact obOk_cell) oln))) noS) ?_
    rintro n_ s ⟨k, hk, hall, rfl⟩
    all_goals refine awp_seq (awp_seq (awp_region (id := 5) ?_))
    all_goals refine awpOps_cons (op_mv rfl (Conv.of rfl) rfl) ?_
    all_goals refine awpOps_cons (op_fab f39_3_NodS rfl rfl) ?_
    all_goals refine awpOps_cons (op_ldl ty27_OListVote rfl rfl rfl) ?_
    all_goals refine awpOps_cons (op_len sl27 rfl rfl) ?_
    all_goals refine awpOps_cons (op_lss rfl rfl rfl) ?_
    all_goals refine awpOps_nil ?_
    refine awp_cond rfl (fun h2 => ?_) (fun h2 => ?_)
    · have hlt : k < n.seen.length := by simpa [sN] using h2
      have hx : n.seen[k]? = some n.seen[k] := List.getElem?_eq_getElem hlt
      have hx' : (sN n).seen.l[(k : Int).toNat]? = some n.seen[k] := hx
      have huo := hn.ok _ (List.getElem_mem hlt)
      have hup := voteOk_pos huo
      have hstep := tryS_drop n (tipOfS n.seen).length hx
      refine awp_skip ?_
      refine awp_seq (awp_block ?_)
      all_goals refine awp_seq (dr_start (id := 7) ?_)
      all_goals refine dr_cons (op_ldd ty39_NodS rfl rfl rfl) ?_
      all_goals refine dr_cons (op_fab f39_3_NodS rfl rfl) ?_
      all_goals refine dr_cons (op_ldl ty27_OListVote rfl rfl rfl) ?_
      all_goals refine dr_cons (op_mv rfl (Conv.of rfl) rfl) ?_
      all_goals refine dr_cons (op_ix sl27 rfl rfl rfl (by omega) hx') ?_
      all_goals refine dr_cons (op_ldr ty48 rfl rfl) ?_
      all_goals refine dr_cons (op_mv rfl (Conv.of rfl) rfl) ?_
      all_goals refine dr_cons (op_call fb174 (.cons rfl (Conv.of rfl) (.cons rfl (Conv.of rfl) (.cons rfl (Conv.of rfl) (.nil _)))) (l12Fits_ct n n.seen[k] (tipOfS n.seen).length hup he) (argOk rfl rfl (argOk rfl rfl (argOk rfl rfl argOk0))) rfl rfl) ?_
      all_goals refine dr_nil mixed rfl ?_
      refine awp_cond rfl (fun h3 => ?_) (fun h3 => ?_)
      · refine awp_seq ?_
        refine awp_park (s := 37) (o := 0) (tb := 1) rfl rfl rfl (fun hv => ?_)
        refine dg_start 8 ?_
        all_goals refine dg_cons (op_ld ty39_NodH rfl rfl rfl) ?_
        all_goals refine dg_cons (op_fab f39_3_NodH rfl rfl) ?_
        all_goals refine dg_cons (op_ld ty27_HListVote rfl rfl rfl) ?_
        all_goals refine dg_cons (op_mv rfl (Conv.of rfl) rfl) ?_
        all_goals refine dg_cons (op_ix sl27 rfl rfl rfl (by omega) hx') ?_
        all_goals refine dg_cons (op_far f48_1 rfl rfl) ?_
        all_goals refine dg_cons (op_ldr ty35 rfl rfl) ?_
        refine dg_cons (op_callP (r := 37) rfl fb160 rfl rfl (.cons rfl (Conv.of rfl) (.nil _)) (l12Vote_ct n _ hn (voteOk_len huo)) (argOk rfl rfl argOk0) rfl rfl) ?_
        refine dg_bar (fun hv' => _) mixed rfl rfl (parkT (t := 45) (r := 37) rfl rfl rfl) (fun hv' => ?_)
        all_goals refine dg_cons (op_ext rfl rfl rfl) ?_
        all_goals refine dg_cons (op_ext rfl rfl rfl) ?_
        all_goals refine dg_cons (op_ext rfl rfl rfl) ?_
        refine dg_cons (op_stP (s := 46) (r := 37) rfl ty39_NodS rfl rfl rfl rfl) ?_
        all_goals refine dg_cons (op_st ty48 rfl rfl (Conv.of rfl) rfl) ?_
        all_goals refine dg_cons (op_as rfl (Conv.of rfl) rfl) ?_
        refine dg_nil rfl ?_
        refine awp_ret ?_
        repeat first | refine rt_seq ?_ | refine rt_block ?_
        refine ⟨_, _, resNM (ol := []) (.cell ty39_NodS rfl rfl (.keep (.rc ty48 rfl rfl) (.keep (.v rfl (Conv.of rfl)) (.nil _)))) rfl (fun o ho => absurd (show o ∈ ([] : List Nat) from ho) (by simp)) oln noS, ?_, rfl⟩
        rw [← hall, hstep, if_pos h3]; rfl
      · refine awp_skip ?_
        all_goals refine awp_region (id := 6) ?_
        all_goals refine awpOps_cons (op_mv rfl (Conv.of rfl) rfl) ?_
        all_goals refine awpOps_cons (op_add rfl rfl rfl (by omega)) ?_
        all_goals refine awpOps_cons (op_as rfl (Conv.of rfl) rfl) ?_
        all_goals refine awpOps_nil ?_
        repeat first | refine nx_seq ?_ | refine nx_block ?_
        exact ⟨n_ - 1, _, by omega, ⟨k + 1, by omega, by rw [← hall, hstep, if_neg (by rw [h3]; decide)], rfl⟩, Le.mk rfl (tlb rfl rfl rfl (tlb rfl rfl rfl (tlb rfl rfl rfl (tle rfl (rfl) rfl (tle rfl (rfl) rfl tln))))) (olk rfl (by exact obOkN) (olk rfl (by exact obOkN) (olk rfl (by exact obOk_cell) oln))) noS⟩
    · refine awp_exit ?_
      repeat refine ex_seq ?_
      refine ex_block ?_
      have hk : n.seen.length ≤ k := by simpa [sN] using h2
      all_goals refine awp_seq (awp_region (id := 9) ?_)
      all_goals refine awpOps_cons (op_ldm ty39_NodS rfl rfl rfl) ?_
      all_goals refine awpOps_cons (op_build (.nil _) z48 rfl pl48 rfl) ?_
      all_goals refine awpOps_cons (op_stm ty39_NodS rfl rfl rfl) ?_
      all_goals refine awpOps_cons (op_st ty48 rfl rfl (Conv.of rfl) rfl) ?_
      all_goals refine awpOps_cons (op_as rfl (Conv.of rfl) rfl) ?_
      all_goals refine awpOps_nil ?_
      refine awp_ret ?_
      repeat first | refine rt_seq ?_ | refine rt_block ?_
      refine ⟨_, _, resNM (ol := []) (.cell ty39_NodS rfl rfl (.keep (.rc ty48 rfl rfl) (.keep (.v rfl (Conv.of rfl)) (.nil _)))) rfl (fun o ho => absurd (show o ∈ ([] : List Nat) from ho) (by simp)) oln noS, ?_, rfl⟩
      rw [← hall, drop_end hk]; rfl
theorem l12Hear_ct (n : Nod) (v : Vote) (hn : Gd n.seen) (he : 0 ≤ n.epoch ∧ n.epoch ≤ 30) (hv : v.chain.length ≤ 1000000) : CtP Tryz.prog 148 [.v (sN n), .v v] (res3S (hearS n v)) := by
  refine Ct.intro Tryz.func148 rfl rfl ?_
  all_goals refine awp_seq (awp_region (id := 0) ?_)
  all_goals refine awpOps_cons (op_boxm (o := 0) ty39_NodS rfl rfl rfl rfl) ?_
  all_goals refine awpOps_cons (op_box (o := 1) ty48 rfl (Conv.of rfl) rfl rfl) ?_
  all_goals refine awpOps_cons (op_alloc (o := 2) z39_NodS rfl rfl) ?_
  all_goals refine awpOps_cons (op_alloc (o := 3) z48 rfl rfl) ?_
  all_goals refine awpOps_cons (op_as rfl (Conv.of rfl) rfl) ?_
  all_goals refine awpOps_nil ?_
  refine awp_seq (awp_seq_to (s' := mkSt 41 [(2, .box 0 (IsLens.whole NodS)), (3, .box 1 (IsLens.whole Vote)), (4, .box 2 (IsLens.whole NodS)), (5, .box 3 (IsLens.whole Vote)), (6, .v false), (24, .v (!(voteOk v && !decide (v.by_ = n.id) && decide (n.seen.length < 80))))] [(0, .cell (sN n)), (1, .cell v), (2, .cell NodS.zero), (3, .cell Vote.zero)]) ?_ ?_)
  · all_goals refine awp_region (id := 1) ?_
    all_goals refine awpOps_cons (op_ld ty48 rfl rfl rfl) ?_
    all_goals refine awpOps_cons (op_call fb107 (.cons rfl (Conv.of rfl) (.nil _)) (l3Vote_ct _) (argOk rfl rfl argOk0) rfl rfl) ?_
    all_goals refine awpOps_cons (op_not rfl rfl) ?_
    all_goals refine awpOps_cons (op_mv rfl (Conv.of rfl) rfl) ?_
    all_goals refine g_split (t := 12) rfl (fun h => ?_) (fun h => ?_)
    all_goals first | refine awpOps_cons (g_off rfl rfl rfl rfl rfl) ?_ | refine awpOps_cons (g_on rfl rfl rfl (op_fab f48_0 rfl rfl)) ?_
    all_goals first | refine awpOps_cons (g_off rfl rfl rfl rfl rfl) ?_ | refine awpOps_cons (g_on rfl rfl rfl (op_ld ty3 rfl rfl rfl)) ?_
    all_goals first | refine awpOps_cons (g_off rfl rfl rfl rfl rfl) ?_ | refine awpOps_cons (g_on rfl rfl rfl (op_fab f39_0_NodS rfl rfl)) ?_
    all_goals first | refine awpOps_cons (g_off rfl rfl rfl rfl rfl) ?_ | refine awpOps_cons (g_on rfl rfl rfl (op_ld ty3 rfl rfl rfl)) ?_
    all_goals first | refine awpOps_cons (g_off rfl rfl rfl rfl rfl) ?_ | refine awpOps_cons (g_on rfl rfl rfl (op_eql rfl rfl rfl)) ?_
    all_goals refine awpOps_cons (op_pick rfl rfl rfl rfl) ?_
    all_goals refine awpOps_cons (op_mv rfl (Conv.of rfl) rfl) ?_
    all_goals first | refine g_lit (t := 19) (b := true) rfl ?_ | refine g_split (t := 19) rfl (fun h => ?_) (fun h => ?_)
    all_goals first | refine awpOps_cons (g_off rfl rfl rfl rfl rfl) ?_ | refine awpOps_cons (g_on rfl rfl rfl (op_fab f39_3_NodS rfl rfl)) ?_
    all_goals first | refine awpOps_cons (g_off rfl rfl rfl rfl rfl) ?_ | refine awpOps_cons (g_on rfl rfl rfl (op_ldl ty27_OListVote rfl rfl rfl)) ?_
    all_goals first | refine awpOps_cons (g_off rfl rfl rfl rfl rfl) ?_ | refine awpOps_cons (g_on rfl rfl rfl (op_len sl27 rfl rfl)) ?_
    all_goals first | refine awpOps_cons (g_off rfl rfl rfl rfl rfl) ?_ | refine awpOps_cons (g_on rfl rfl rfl (op_geq rfl rfl rfl)) ?_
    all_goals refine awpOps_cons (op_pick rfl rfl rfl rfl) ?_
    all_goals refine awpOps_nil ?_
    all_goals exact Le.mk rfl (tlb rfl rfl rfl (tlb rfl rfl rfl (tlb rfl rfl rfl (tlb rfl rfl rfl (tle rfl (rfl) rfl (tle rfl (by (simp_all [sN]; try (rw [Bool.eq_iff_iff]; simp; try omega); try (exact ⟨fun hh => by have := of_decide_eq_true hh; omega, fun hh => decide_eq_true (by omega)⟩))) rfl tln)))))) (olk rfl (by exact obOkN) (olk rfl (by exact obOk_cell) (olk rfl (by exact obOkN) (olk rfl (by exact obOk_cell) oln)))) noS
  refine awp_cond rfl (fun h => ?_) (fun h => ?_)
  · all_goals refine awp_seq (awp_region (id := 2) ?_)
    all_goals refine awpOps_cons (op_ldm ty39_NodS rfl rfl rfl) ?_
    all_goals refine awpOps_cons (op_build (.nil _) z48 rfl pl48 rfl) ?_
    all_goals refine awpOps_cons (op_stm ty39_NodS rfl rfl rfl) ?_
    all_goals refine awpOps_cons (op_st ty48 rfl rfl (Conv.of rfl) rfl) ?_
    all_goals refine awpOps_cons (op_as rfl (Conv.of rfl) rfl) ?_
    all_goals refine awpOps_nil ?_
    refine awp_ret ?_
    repeat first | refine rt_seq ?_ | refine rt_block ?_
    refine ⟨_, _, resNM (ol := []) (.cell ty39_NodS rfl rfl (.keep (.rc ty48 rfl rfl) (.keep (.v rfl (Conv.of rfl)) (.nil _)))) rfl (fun o ho => absurd (show o ∈ ([] : List Nat) from ho) (by simp)) oln noS, ?_, rfl⟩
    rw [hearS, not_t h]; rfl
  · have h0 := not_f h
    have h0' := h0
    simp only [Bool.and_eq_true] at h0'
    have hvo : voteOk v = true := h0'.1.1
    have hlen : n.seen.length < 80 := by simpa using h0'.2
    have hgd := seeF_gd hn hvo hlen
    have hep : (seeF n v).epoch = n.epoch := by unfold seeF; split <;> rfl
    refine awp_skip ?_
    all_goals refine awp_seq (awp_region (id := 3) ?_)
    all_goals refine awpOps_cons (op_fab f39_3_NodS rfl rfl) ?_
    all_goals refine awpOps_cons (op_ldm ty27_OListVote rfl rfl rfl) ?_
    all_goals refine awpOps_cons (op_ld ty48 rfl rfl rfl) ?_
    all_goals refine awpOps_cons (op_callM (s := 29) (ol := []) (ol' := []) (pre := []) fb149 (.nil _) rfl (.cons rfl (Conv.of rfl) (.nil _)) (l3Add_ct n.seen v hn.l' hv) ols0 oks0 oks0 rfl argO0 (argOk' rfl rfl argO0) (fun o ho => absurd (show o ∈ ([] : List Nat) from ho) (by simp)) (fun o ho => absurd (show o ∈ ([] : List Nat) from ho) (by simp)) rfl) ?_
    all_goals refine awpOps_cons (op_mvo rfl rfl rfl rfl) ?_
    all_goals refine awpOps_cons (op_extm rfl rfl rfl rfl) ?_
    all_goals refine awpOps_cons (op_ext rfl rfl rfl) ?_
    all_goals refine awpOps_cons (op_asl rfl rfl rfl rfl) ?_
    all_goals refine awpOps_cons (op_as rfl (Conv.of rfl) rfl) ?_
    all_goals refine awpOps_nil ?_
    refine awp_seq_to (s' := mkSt 41 [(2, .box 0 (IsLens.whole NodS)), (4, .box 2 (IsLens.whole NodS)), (5, .box 3 (IsLens.whole Vote))] [(0, .cell (sN (seeF n v))), (2, .cell NodS.zero), (3, .cell Vote.zero)]) ?_ ?_
    · all_goals refine awp_region (id := 4) ?_
      all_goals refine awpOps_cons (op_mvl rfl rfl rfl rfl) ?_
      all_goals refine awpOps_cons (op_fab f39_3_NodS rfl rfl) ?_
      all_goals refine awpOps_cons (op_stm ty27_OListVote rfl rfl rfl) ?_
      all_goals refine awpOps_nil ?_
      all_goals exact Le.mk rfl (tlb rfl rfl rfl (tlb rfl rfl rfl (tlb rfl rfl rfl tln))) (olk (by (by_cases hm : v ∈ n.seen <;> simp [seeF, sN, hm] <;> rfl)) (by exact obOkN) (olk rfl (by exact obOkN) (olk rfl (by exact obOk_cell) oln))) noS
    all_goals refine awp_seq (awp_region (id := 5) ?_)
    all_goals refine awpOps_cons (op_ldm ty39_NodS rfl rfl rfl) ?_
    all_goals refine awpOps_cons (op_callM (s := 36) (ol := []) (ol' := []) (pre := []) fb169 (.nil _) rfl (.nil _) (l12Try_ct (seeF n v) hgd (by rw [hep]; exact he)) ols0 oks0 oks0 rfl argO0 argO0 (fun o ho => absurd (show o ∈ ([] : List Nat) from ho) (by simp)) (fun o ho => absurd (show o ∈ ([] : List Nat) from ho) (by simp)) rfl) ?_
    all_goals refine awpOps_cons (op_extm rfl rfl rfl rfl) ?_
    all_goals refine awpOps_cons (op_ext rfl rfl rfl) ?_
    all_goals refine awpOps_cons (op_ext rfl rfl rfl) ?_
    all_goals refine awpOps_cons (op_stm ty39_NodS rfl rfl rfl) ?_
    all_goals refine awpOps_cons (op_st ty48 rfl rfl (Conv.of rfl) rfl) ?_
    all_goals refine awpOps_cons (op_as rfl (Conv.of rfl) rfl) ?_
    all_goals refine awpOps_nil ?_
    refine awp_ret ?_
    repeat first | refine rt_seq ?_ | refine rt_block ?_
    refine ⟨_, _, resNM (ol := []) (.cell ty39_NodS rfl rfl (.keep (.rc ty48 rfl rfl) (.keep (.v rfl (Conv.of rfl)) (.nil _)))) rfl (fun o ho => absurd (show o ∈ ([] : List Nat) from ho) (by simp)) oln noS, ?_, rfl⟩
    rw [hearS, h0, if_pos rfl]; rfl
end Go.Proofs.YtompnmkpgffhkaaGreat

/- Streamlet: what is sure, what is final, and that of two finals one begins the other. -/
set_option linter.unusedVariables false
set_option linter.unusedSimpArgs false
namespace Go.Wt

/-! ### Sure chains -/
theorem sureFrom_iff (l : List Vote) (c : List Itm) : ∀ (n k : Nat), sureFrom l c k n = true ↔ ∀ j, k < j → j ≤ k + n → 3 ≤ (voters l (c.take j)).length
  | 0, k => by
    simp only [sureFrom, Nat.add_zero, true_iff]
    intro j h1 h2; omega
  | n + 1, k => by
    simp only [sureFrom, Bool.and_eq_true, decide_eq_true_eq, sureFrom_iff l c n (k + 1)]
    constructor
    · rintro ⟨h1, h2⟩ j h3 h4
      by_cases e : j = k + 1
      · rw [e]; exact h1
      · exact h2 j (by omega) (by omega)
    · intro h
      exact ⟨h (k + 1) (by omega) (by omega), fun j h3 h4 => h j (by omega) (by omega)⟩
theorem sure_iff {l : List Vote} {c : List Itm} : sure l c = true ↔ ∀ j, 0 < j → j ≤ c.length → 3 ≤ (voters l (c.take j)).length := by
  unfold sure; rw [sureFrom_iff]; simp
theorem sure_nil (l : List Vote) : sure l [] = true := rfl
theorem sure_take {l : List Vote} {c : List Itm} (h : sure l c = true) (n : Nat) : sure l (c.take n) = true := by
  rw [sure_iff] at h ⊢
  intro j h1 h2
  rw [List.length_take] at h2
  rw [List.take_take, Nat.min_eq_left (by omega)]
  exact h j h1 (by omega)
theorem sure_self {l : List Vote} {c : List Itm} (h : sure l c = true) (h0 : 0 < c.length) : 3 ≤ (voters l c).length := by
  have := sure_iff.1 h c.length h0 (Nat.le_refl _)
  rwa [List.take_length] at this
theorem sure_snoc {l : List Vote} {c : List Itm} (h0 : 0 < c.length) : sure l c = true ↔ sure l (c.take (c.length - 1)) = true ∧ 3 ≤ (voters l c).length := by
  constructor
  · intro h; exact ⟨sure_take h _, sure_self h h0⟩
  · rintro ⟨h1, h2⟩
    rw [sure_iff] at h1 ⊢
    intro j h3 h4
    by_cases e : j = c.length
    · rw [e, List.take_length]; exact h2
    · have := h1 j h3 (by rw [List.length_take]; omega)
      rwa [List.take_take, Nat.min_eq_left (by omega)] at this
theorem filter_len_mono {α : Type} {p q : α → Bool} (h : ∀ x, p x = true → q x = true) : ∀ l : List α, (l.filter p).length ≤ (l.filter q).length
  | [] => by simp
  | x :: l => by
    have := filter_len_mono h l
    simp only [List.filter_cons]
    by_cases hp : p x = true
    · simp [hp, h x hp, this]
    · by_cases hq : q x = true
      · simp [hp, hq]; omega
      · simp [hp, hq, this]
theorem voters_mono {l L : List Vote} (h : ∀ v ∈ l, v ∈ L) (c : List Itm) : (voters l c).length ≤ (voters L c).length :=
  filter_len_mono (fun n hn => by simp only [decide_eq_true_eq] at hn ⊢; exact h _ hn) _
theorem sure_mono {l L : List Vote} (h : ∀ v ∈ l, v ∈ L) {c : List Itm} (hc : sure l c = true) : sure L c = true := by
  rw [sure_iff] at hc ⊢
  exact fun j h1 h2 => Nat.le_trans (hc j h1 h2) (voters_mono h _)
theorem voters_mem {l : List Vote} {c : List Itm} {n : Int} : n ∈ voters l c ↔ (n = 1 ∨ n = 2 ∨ n = 3 ∨ n = 4) ∧ Vote.mk n c ∈ l := by
  simp [voters]
theorem voters_some {l : List Vote} {c : List Itm} (h : 0 < (voters l c).length) : ∃ v ∈ l, v.chain = c := by
  obtain ⟨n, hn⟩ := List.exists_mem_of_length_pos h
  exact ⟨_, (voters_mem.1 hn).2, rfl⟩
/-- Of two quorums one who does not lie is in both. -/
theorem quorum {l : List Vote} {c d : List Itm} (bad : Int) (h1 : 3 ≤ (voters l c).length) (h2 : 3 ≤ (voters l d).length) : ∃ n, n ≠ bad ∧ Vote.mk n c ∈ l ∧ Vote.mk n d ∈ l := by
  have key : ∀ n m : Int, n ≠ m → Vote.mk n c ∈ l → Vote.mk n d ∈ l → Vote.mk m c ∈ l → Vote.mk m d ∈ l → ∃ n, n ≠ bad ∧ Vote.mk n c ∈ l ∧ Vote.mk n d ∈ l := by
    intro n m hnm a1 a2 a3 a4
    by_cases e : n = bad
    · exact ⟨m, fun e' => hnm (e.trans e'.symm), a3, a4⟩
    · exact ⟨n, e, a1, a2⟩
  have three : ∀ x : List Itm, 3 ≤ (voters l x).length → (Vote.mk 1 x ∈ l ∧ Vote.mk 2 x ∈ l ∧ Vote.mk 3 x ∈ l) ∨ (Vote.mk 1 x ∈ l ∧ Vote.mk 2 x ∈ l ∧ Vote.mk 4 x ∈ l) ∨ (Vote.mk 1 x ∈ l ∧ Vote.mk 3 x ∈ l ∧ Vote.mk 4 x ∈ l) ∨ (Vote.mk 2 x ∈ l ∧ Vote.mk 3 x ∈ l ∧ Vote.mk 4 x ∈ l) := by
    intro x h
    by_cases a1 : Vote.mk 1 x ∈ l <;> by_cases a2 : Vote.mk 2 x ∈ l <;> by_cases a3 : Vote.mk 3 x ∈ l <;> by_cases a4 : Vote.mk 4 x ∈ l <;> simp [voters, a1, a2, a3, a4] at h ⊢
  rcases three c h1 with ⟨a, b, e⟩ | ⟨a, b, e⟩ | ⟨a, b, e⟩ | ⟨a, b, e⟩ <;> rcases three d h2 with ⟨a', b', e'⟩ | ⟨a', b', e'⟩ | ⟨a', b', e'⟩ | ⟨a', b', e'⟩ <;>
    first
      | exact key 1 2 (by decide) ‹_› ‹_› ‹_› ‹_›
      | exact key 1 3 (by decide) ‹_› ‹_› ‹_› ‹_›
      | exact key 1 4 (by decide) ‹_› ‹_› ‹_› ‹_›
      | exact key 2 3 (by decide) ‹_› ‹_› ‹_› ‹_›
      | exact key 2 4 (by decide) ‹_› ‹_› ‹_› ‹_›
      | exact key 3 4 (by decide) ‹_› ‹_› ‹_› ‹_›
/-- In a quorum is one who does not lie. -/
theorem quorum1 {l : List Vote} {c : List Itm} (bad : Int) (h1 : 3 ≤ (voters l c).length) : ∃ n, n ≠ bad ∧ Vote.mk n c ∈ l := by
  obtain ⟨n, h, h', _⟩ := quorum bad h1 h1
  exact ⟨n, h, h'⟩

/-! ### All sure chains, the longest, the final part -/
theorem allFold_sure {l : List Vote} : ∀ (r : List Vote) (o : List (List Itm)), (∀ c ∈ o, sure l c = true) → ∀ c ∈ r.foldl (allStep l) o, sure l c = true
  | [], o, h, c, hc => h c hc
  | v :: r, o, h, c, hc => by
    refine allFold_sure r _ (fun d hd => ?_) c hc
    unfold allStep at hd
    split at hd
    · rename_i hs
      simp only [Bool.and_eq_true] at hs
      rcases List.mem_append.1 hd with hd | hd
      · exact h d hd
      · simp at hd; rw [hd]; exact hs.2
    · exact h d hd
theorem allOf_sure {l : List Vote} {c : List Itm} (h : c ∈ allOf l) : sure l c = true := allFold_sure l [[]] (fun d hd => by simp at hd; rw [hd]; rfl) c h
theorem allFold_keep {l : List Vote} : ∀ (r : List Vote) (o : List (List Itm)) (c : List Itm), c ∈ o → c ∈ r.foldl (allStep l) o
  | [], o, c, hc => hc
  | v :: r, o, c, hc => by
    refine allFold_keep r _ c ?_
    unfold allStep
    split
    · exact List.mem_append_left _ hc
    · exact hc
theorem allFold_has {l : List Vote} : ∀ (r : List Vote) (o : List (List Itm)) (v : Vote), v ∈ r → sure l v.chain = true → v.chain ∈ r.foldl (allStep l) o
  | u :: r, o, v, hv, hs => by
    rcases List.mem_cons.1 hv with e | hv
    · subst e
      refine allFold_keep r _ _ ?_
      unfold allStep
      by_cases hm : v.chain ∈ o
      · simp [hm]
      · simp [hm, hs]
    · exact allFold_has r _ v hv hs
theorem allOf_nil (l : List Vote) : [] ∈ allOf l := allFold_keep l [[]] [] (by simp)
theorem allOf_has {l : List Vote} {c : List Itm} (h : sure l c = true) : c ∈ allOf l := by
  cases c with
  | nil => exact allOf_nil l
  | cons x c =>
    obtain ⟨v, h1, h2⟩ := voters_some (l := l) (c := x :: c) (by have := sure_self h (by simp); omega)
    rw [← h2] at h ⊢
    exact allFold_has l _ v h1 h
theorem allOf_iff {l : List Vote} {c : List Itm} : c ∈ allOf l ↔ sure l c = true := ⟨allOf_sure, allOf_has⟩
theorem tipFold_max : ∀ (r : List (List Itm)) (o : List Itm), o.length ≤ (r.foldl tipStep o).length ∧ ∀ c ∈ r, c.length ≤ (r.foldl tipStep o).length
  | [], o => ⟨Nat.le_refl _, fun c hc => by cases hc⟩
  | d :: r, o => by
    obtain ⟨h1, h2⟩ := tipFold_max r (tipStep o d)
    have h3 : o.length ≤ (tipStep o d).length ∧ d.length ≤ (tipStep o d).length := by
      unfold tipStep
      split
      · rename_i h; simp only [decide_eq_true_eq] at h; omega
      · rename_i h; simp only [decide_eq_true_eq] at h; omega
    refine ⟨Nat.le_trans h3.1 h1, fun c hc => ?_⟩
    rcases List.mem_cons.1 hc with e | hc
    · rw [e]; exact Nat.le_trans h3.2 h1
    · exact h2 c hc
theorem tip_max {l : List Vote} {c : List Itm} (h : sure l c = true) : c.length ≤ (tipOf l).length := (tipFold_max (allOf l) []).2 c (allOf_has h)
theorem tip_sure (l : List Vote) : sure l (tipOf l) = true := by
  rcases tip_mem (allOf l) [] with e | e
  · unfold tipOf; rw [e]; rfl
  · exact allOf_sure e
theorem tip_mono {l L : List Vote} (h : ∀ v ∈ l, v ∈ L) : (tipOf l).length ≤ (tipOf L).length := tip_max (sure_mono h (tip_sure l))
/-- Three items of epochs one behind the other, the last at place `n`. -/
def Trip (c : List Itm) (n : Nat) : Prop := 2 ≤ n ∧ ∃ x y z, c[n - 2]? = some x ∧ c[n - 1]? = some y ∧ c[n]? = some z ∧ x.epoch + 1 = y.epoch ∧ y.epoch + 1 = z.epoch
theorem trip_iff (c : List Itm) (n : Nat) : (decide (2 < n + 1) && (match c[n - 2]?, c[n - 1]?, c[n]? with | some x, some y, some z => decide (x.epoch + 1 = y.epoch) && decide (y.epoch + 1 = z.epoch) | _, _, _ => false)) = true ↔ Trip c n := by
  unfold Trip
  simp only [Bool.and_eq_true, decide_eq_true_eq]
  constructor
  · rintro ⟨h1, h2⟩
    refine ⟨by omega, ?_⟩
    split at h2
    · rename_i x y z e1 e2 e3
      simp only [Bool.and_eq_true, decide_eq_true_eq] at h2
      exact ⟨x, y, z, e1, e2, e3, h2.1, h2.2⟩
    · cases h2
  · rintro ⟨h1, x, y, z, e1, e2, e3, e4, e5⟩
    refine ⟨by omega, ?_⟩
    simp [e1, e2, e3, e4, e5]
theorem finFrom_spec (c : List Itm) : ∀ n : Nat, (finFrom c n = 0 ∨ Trip c (finFrom c n).toNat) ∧ ∀ m, m < n → Trip c m → (m : Int) ≤ finFrom c n
  | 0 => ⟨.inl rfl, fun m h => by omega⟩
  | n + 1 => by
    obtain ⟨h1, h2⟩ := finFrom_spec c n
    have h3 := finFrom_le c n
    by_cases ht : Trip c n
    · have e : finFrom c (n + 1) = n := by simp only [finFrom]; exact if_pos ((trip_iff c n).2 ht)
      rw [e]
      exact ⟨.inr (by simpa using ht), fun m hm _ => by omega⟩
    · have e : finFrom c (n + 1) = finFrom c n := by simp only [finFrom]; exact if_neg (fun h => ht ((trip_iff c n).1 h))
      rw [e]
      refine ⟨h1, fun m hm hT => ?_⟩
      by_cases e : m = n
      · subst e; exact absurd hT ht
      · exact h2 m (by omega) hT
theorem Trip.lt {c : List Itm} {n : Nat} (h : Trip c n) : n < c.length := by
  obtain ⟨_, x, y, z, _, _, h, _⟩ := h
  exact (List.getElem?_eq_some_iff.1 h).1
theorem finLen_spec (c : List Itm) : finLen c = 0 ∨ Trip c (finLen c).toNat := (finFrom_spec c c.length).1
theorem finLen_max {c : List Itm} {n : Nat} (h : Trip c n) : (n : Int) ≤ finLen c := (finFrom_spec c c.length).2 n h.lt h
theorem shownFold_max : ∀ (r : List (List Itm)) (o : List Itm), finLen o ≤ finLen (r.foldl shownStep o) ∧ ∀ c ∈ r, finLen c ≤ finLen (r.foldl shownStep o)
  | [], o => ⟨by simp, fun c hc => by cases hc⟩
  | d :: r, o => by
    obtain ⟨h1, h2⟩ := shownFold_max r (shownStep o d)
    have h3 : finLen o ≤ finLen (shownStep o d) ∧ finLen d ≤ finLen (shownStep o d) := by
      unfold shownStep
      split
      · rename_i h; simp only [decide_eq_true_eq] at h; omega
      · rename_i h; simp only [decide_eq_true_eq] at h; omega
    refine ⟨by simp only [List.foldl_cons]; omega, fun c hc => ?_⟩
    simp only [List.foldl_cons]
    rcases List.mem_cons.1 hc with e | hc
    · rw [e]; omega
    · exact h2 c hc
theorem shown_max {l : List Vote} {c : List Itm} (h : sure l c = true) : finLen c ≤ finLen (shownOf l) := (shownFold_max (allOf l) []).2 c (allOf_has h)
theorem shown_sure (l : List Vote) : sure l (shownOf l) = true := by
  rcases shown_mem (allOf l) [] with e | e
  · unfold shownOf; rw [e]; rfl
  · exact allOf_sure e
theorem final_len (l : List Vote) : ((finalOf l).length : Int) = finLen (shownOf l) := by
  unfold finalOf
  have := finLen_le (shownOf l)
  rw [List.length_take]; omega
theorem lastEp_take {c : List Itm} {k : Nat} {x : Itm} (h : c[k]? = some x) : lastEp (c.take (k + 1)) = x.epoch := by
  unfold lastEp
  rw [take_at h]; simp

/-! ### Of two finals one begins the other -/
/-- Who does not lie votes once in an epoch, and never behind a shorter one. -/
structure Safe (bad : Int) (L : List Vote) : Prop where
  one : ∀ u ∈ L, ∀ v ∈ L, u.by_ = v.by_ → u.by_ ≠ bad → lastEp u.chain = lastEp v.chain → u = v
  long : ∀ u ∈ L, ∀ v ∈ L, u.by_ = v.by_ → u.by_ ≠ bad → lastEp u.chain < lastEp v.chain → u.chain.length ≤ v.chain.length
theorem Safe.epoch {bad : Int} {L : List Vote} (hs : Safe bad L) {c d : List Itm} (h1 : 3 ≤ (voters L c).length) (h2 : 3 ≤ (voters L d).length) (he : lastEp c = lastEp d) : c = d := by
  obtain ⟨n, hn, a, b⟩ := quorum bad h1 h2
  have := hs.one _ a _ b rfl hn he
  injection this
theorem Safe.lens {bad : Int} {L : List Vote} (hs : Safe bad L) {c d : List Itm} (h1 : 3 ≤ (voters L c).length) (h2 : 3 ≤ (voters L d).length) (he : lastEp c < lastEp d) : c.length ≤ d.length := by
  obtain ⟨n, hn, a, b⟩ := quorum bad h1 h2
  exact hs.long _ a _ b rfl hn he
theorem Safe.agree {bad : Int} {L : List Vote} (hs : Safe bad L) {A B : List Itm} {n : Nat} (hA : sure L A = true) (hB : sure L B = true) (tA : Trip A n) (hn : n ≤ B.length) : A.take n = B.take n := by
  have hlt := tA.lt
  obtain ⟨h2, x, y, z, ex, ey, ez, e1, e2⟩ := tA
  have qa : ∀ j, 0 < j → j ≤ A.length → 3 ≤ (voters L (A.take j)).length := sure_iff.1 hA
  have qb : 3 ≤ (voters L (B.take n)).length := sure_iff.1 hB n (by omega) hn
  have l0 : lastEp (A.take (n - 1)) = x.epoch := by have := lastEp_take ex; rwa [show n - 2 + 1 = n - 1 by omega] at this
  have l1 : lastEp (A.take n) = y.epoch := by have := lastEp_take ey; rwa [show n - 1 + 1 = n by omega] at this
  have l2 : lastEp (A.take (n + 1)) = z.epoch := lastEp_take ez
  have s0 : (A.take (n - 1)).length = n - 1 := by rw [List.length_take]; omega
  have s2 : (A.take (n + 1)).length = n + 1 := by rw [List.length_take]; omega
  have sB : (B.take n).length = n := by rw [List.length_take]; omega
  have q0 := qa (n - 1) (by omega) (by omega)
  have q1 := qa n (by omega) (by omega)
  have q2 := qa (n + 1) (by omega) (by omega)
  rcases Int.lt_trichotomy (lastEp (B.take n)) y.epoch with h | h | h
  · rcases Int.lt_trichotomy (lastEp (B.take n)) x.epoch with h' | h' | h'
    · have := hs.lens qb q0 (by omega); omega
    · have := hs.epoch qb q0 (by omega); rw [this] at sB; omega
    · omega
  · exact hs.epoch q1 qb (by omega)
  · rcases Int.lt_trichotomy (lastEp (B.take n)) z.epoch with h' | h' | h'
    · omega
    · have := hs.epoch qb q2 (by omega); rw [this] at sB; omega
    · have := hs.lens q2 qb (by omega); omega
theorem Safe.begin {bad : Int} {L l1 l2 : List Vote} (hs : Safe bad L) (h1 : ∀ v ∈ l1, v ∈ L) (h2 : ∀ v ∈ l2, v ∈ L) (hl : (finalOf l1).length ≤ (finalOf l2).length) : finalOf l1 <+: finalOf l2 := by
  have e1 := final_len l1
  have e2 := final_len l2
  rcases finLen_spec (shownOf l1) with h | h
  · rw [h] at e1
    have : finalOf l1 = [] := List.eq_nil_of_length_eq_zero (by omega)
    rw [this]; exact List.nil_prefix
  · have hb := finLen_le (shownOf l2)
    have := hs.agree (sure_mono h1 (shown_sure l1)) (sure_mono h2 (shown_sure l2)) h (by omega)
    show (shownOf l1).take _ <+: (shownOf l2).take _
    rw [this]
    exact List.take_prefix_take_left (by omega)
theorem Safe.fits {bad : Int} {L l1 l2 : List Vote} (hs : Safe bad L) (h1 : ∀ v ∈ l1, v ∈ L) (h2 : ∀ v ∈ l2, v ∈ L) : finalOf l1 <+: finalOf l2 ∨ finalOf l2 <+: finalOf l1 := by
  rcases Nat.le_total (finalOf l1).length (finalOf l2).length with h | h
  · exact .inl (hs.begin h1 h2 h)
  · exact .inr (hs.begin h2 h1 h)
theorem final_mono_len {l1 l2 : List Vote} (h : ∀ v ∈ l1, v ∈ l2) : (finalOf l1).length ≤ (finalOf l2).length := by
  have e1 := final_len l1
  have e2 := final_len l2
  have := shown_max (sure_mono h (shown_sure l1))
  omega
theorem Safe.more {bad : Int} {L l1 l2 : List Vote} (hs : Safe bad L) (h : ∀ v ∈ l1, v ∈ l2) (h2 : ∀ v ∈ l2, v ∈ L) : finalOf l1 <+: finalOf l2 :=
  hs.begin (fun v hv => h2 v (h v hv)) h2 (final_mono_len h)
end Go.Wt

/- What the reference computes is what the program computes; what stays so of a world. -/
set_option linter.unusedVariables false
set_option linter.unusedSimpArgs false
namespace Go.Wt

theorem votesOkFrom_iff : ∀ (l pre : List Vote), votesOkFrom pre l = true ↔ (∀ v ∈ l, voteOk v = true) ∧ l.Nodup ∧ ∀ v ∈ l, v ∉ pre
  | [], pre => by simp [votesOkFrom]
  | u :: r, pre => by
    simp only [votesOkFrom, Bool.and_eq_true, votesOkFrom_iff r (pre ++ [u]), Bool.not_eq_true', decide_eq_false_iff_not]
    constructor
    · rintro ⟨⟨h1, h2⟩, h3, h4, h5⟩
      refine ⟨fun v hv => ?_, List.nodup_cons.2 ⟨fun hm => ?_, h4⟩, fun v hv => ?_⟩
      · rcases List.mem_cons.1 hv with rfl | hv
        · exact h1
        · exact h3 v hv
      · exact h5 u hm (by simp)
      · rcases List.mem_cons.1 hv with rfl | hv
        · exact h2
        · exact fun hm => h5 v hv (by simp [hm])
    · rintro ⟨h1, h2, h3⟩
      rw [List.nodup_cons] at h2
      refine ⟨⟨h1 u (by simp), h3 u (by simp)⟩, fun v hv => h1 v (by simp [hv]), h2.2, fun v hv hm => ?_⟩
      rcases List.mem_append.1 hm with hm | hm
      · exact h3 v (by simp [hv]) hm
      · simp at hm; subst hm; exact h2.1 hv
theorem votesOk_iff {l : List Vote} : votesOk l = true ↔ (∀ v ∈ l, voteOk v = true) ∧ l.Nodup := by
  unfold votesOk; rw [votesOkFrom_iff]; simp
theorem votesOk_snoc {l : List Vote} {v : Vote} (h : votesOk l = true) (hv : voteOk v = true) (hn : v ∉ l) : votesOk (l ++ [v]) = true := by
  rw [votesOk_iff] at h ⊢
  refine ⟨fun u hu => ?_, ?_⟩
  · rcases List.mem_append.1 hu with hu | hu
    · exact h.1 u hu
    · simp at hu; rw [hu]; exact hv
  · rw [List.nodup_append]
    refine ⟨h.2, by simp, fun a ha b hb => ?_⟩
    simp at hb
    rintro rfl
    exact hn (hb ▸ ha)
theorem voteOk_by {v : Vote} (h : voteOk v = true) : v.by_ = 1 ∨ v.by_ = 2 ∨ v.by_ = 3 ∨ v.by_ = 4 := by
  simp only [voteOk, Bool.and_eq_true, within, decide_eq_true_eq] at h
  omega
/-! ### Votes and voters -/
theorem filter_or1 {p : Int → Bool} {m : Int} (hm : m = 1 ∨ m = 2 ∨ m = 3 ∨ m = 4) (hp : p m = false) : (([1, 2, 3, 4] : List Int).filter fun n => decide (n = m) || p n).length = (([1, 2, 3, 4] : List Int).filter p).length + 1 := by
  rcases hm with rfl | rfl | rfl | rfl <;> cases h1 : p 1 <;> cases h2 : p 2 <;> cases h3 : p 3 <;> cases h4 : p 4 <;> simp_all [List.filter_cons]
theorem manyFrom_add (c : List Itm) : ∀ (l : List Vote) (n : Int), manyFrom c l n = n + manyFrom c l 0
  | [], n => by simp [manyFrom]
  | v :: r, n => by
    simp only [manyFrom]
    rw [manyFrom_add c r, manyFrom_add c r (if decide (v.chain = c) = true then 0 + 1 else 0)]
    split <;> omega
theorem many_eq (c : List Itm) : ∀ {l : List Vote}, votesOk l = true → many l c = (voters l c).length
  | [], _ => by simp [many, manyFrom, voters]
  | v :: r, h => by
    rw [votesOk_iff] at h
    have hnd := List.nodup_cons.1 h.2
    have hr : votesOk r = true := votesOk_iff.2 ⟨fun u hu => h.1 u (by simp [hu]), hnd.2⟩
    have ih := many_eq c hr
    unfold many at ih ⊢
    simp only [manyFrom]
    rw [manyFrom_add, ih]
    by_cases e : v.chain = c
    · have hm := voteOk_by (h.1 v (by simp))
      have := filter_or1 (p := fun n => decide (Vote.mk n c ∈ r)) hm (by
        simp only [decide_eq_false_iff_not]
        intro hh; apply hnd.1
        have : Vote.mk v.by_ c = v := by rw [← e]
        rwa [this] at hh)
      have e2 : voters (v :: r) c = ([1, 2, 3, 4] : List Int).filter fun n => decide (n = v.by_) || decide (Vote.mk n c ∈ r) := by
        unfold voters
        congr 1
        funext n
        rw [Bool.eq_iff_iff]
        simp only [List.mem_cons, decide_eq_true_eq, Bool.or_eq_true]
        constructor
        · rintro (h | h)
          · left; rw [← h]
          · exact .inr h
        · rintro (h | h)
          · left; rw [h, ← e]
          · exact .inr h
      rw [e2, this]
      simp only [e, decide_true, if_true]
      unfold voters
      omega
    · have e2 : voters (v :: r) c = voters r c := by
        unfold voters
        congr 1
        funext n
        rw [Bool.eq_iff_iff]
        simp only [List.mem_cons, decide_eq_true_eq]
        constructor
        · rintro (h | h)
          · exfalso; apply e; rw [← h]
          · exact h
        · exact .inr
      rw [e2]
      simp [e]
theorem sureSFrom_eq {l : List Vote} (h : votesOk l = true) (c : List Itm) : ∀ n k, sureSFrom l c k n = sureFrom l c k n
  | 0, _ => rfl
  | n + 1, k => by
    simp only [sureSFrom, sureFrom, sureSFrom_eq h c n, many_eq _ h]
    congr 1
    rw [decide_eq_decide]; omega
theorem sureS_eq {l : List Vote} (h : votesOk l = true) (c : List Itm) : sureS l c = sure l c := sureSFrom_eq h c _ _
theorem allStepS_eq {l : List Vote} (h : votesOk l = true) : allStepS l = allStep l := by
  funext o v; unfold allStepS allStep; rw [sureS_eq h]
theorem allOfS_eq {l : List Vote} (h : votesOk l = true) : allOfS l = allOf l := by unfold allOfS allOf; rw [allStepS_eq h]
theorem tipOfS_eq {l : List Vote} (h : votesOk l = true) : tipOfS l = tipOf l := by unfold tipOfS tipOf; rw [allOfS_eq h]
theorem lead_eq {e : Int} (h : 1 ≤ e ∧ e ≤ 30) : leadS e = leader e := by
  unfold leader leadS
  rw [if_pos (by simp [within]; omega)]
theorem proposeS_eq {n : Nod} (p : Pay) (hs : votesOk n.seen = true) (he : 0 ≤ n.epoch ∧ n.epoch ≤ 30) : proposeS n p = proposeF n p := by
  unfold proposeS proposeF
  rw [tipOfS_eq hs]
  by_cases h0 : n.epoch = 0
  · simp [h0, mayN]
  · rw [lead_eq (by omega)]
    have hp : 0 < n.epoch := by omega
    by_cases h1 : n.voted = n.epoch
    · simp [h1, mayN]
    · by_cases h2 : leader n.epoch = n.id
      · simp [h0, h1, h2, mayN, hp]
      · simp [h0, h1, h2, mayN]
theorem fitsS_eq {n : Nod} {u : Vote} (hs : votesOk n.seen = true) (he : 1 ≤ n.epoch ∧ n.epoch ≤ 30) : fitsS n u (tipOf n.seen).length = fits n u := by
  unfold fitsS fits
  rw [lead_eq he, sureS_eq hs]
theorem tryS_eq {n : Nod} (hs : votesOk n.seen = true) (he : 1 ≤ n.epoch ∧ n.epoch ≤ 30) : ∀ l : List Vote, tryS n (tipOf n.seen).length l = tryF n l
  | [] => rfl
  | u :: r => by simp only [tryS, tryF, fitsS_eq hs he, tryS_eq hs he r]
theorem tryAllS_eq {n : Nod} (hs : votesOk n.seen = true) (he : 0 ≤ n.epoch ∧ n.epoch ≤ 30) : tryAllS n = if mayN n then tryF n n.seen else (n, .zero, false) := by
  unfold tryAllS
  rw [tipOfS_eq hs]
  by_cases h0 : n.epoch = 0
  · simp [h0, mayN]
  · have hp : 0 < n.epoch := by omega
    by_cases h1 : n.voted = n.epoch
    · simp [h1, mayN]
    · simp [h0, h1, mayN, hp, tryS_eq hs (show 1 ≤ n.epoch ∧ n.epoch ≤ 30 by omega)]
theorem seeF_ok {n : Nod} {v : Vote} (hs : votesOk n.seen = true) (hv : voteOk v = true) : votesOk (seeF n v).seen = true := by
  unfold seeF
  split
  · exact hs
  · rename_i h; exact votesOk_snoc hs hv (by simpa using h)
theorem seeF_epoch (n : Nod) (v : Vote) : (seeF n v).epoch = n.epoch ∧ (seeF n v).id = n.id ∧ (seeF n v).voted = n.voted := by unfold seeF; split <;> exact ⟨rfl, rfl, rfl⟩
theorem hearS_eq {n : Nod} {v : Vote} (hs : votesOk n.seen = true) (he : 0 ≤ n.epoch ∧ n.epoch ≤ 30) : hearS n v = hearF n v := by
  unfold hearS hearF
  split
  · rename_i h
    simp only [Bool.and_eq_true] at h
    exact tryAllS_eq (seeF_ok hs h.1.1) (by rw [(seeF_epoch n v).1]; exact he)
  · rfl
/-! ### Nodes stay in form -/
theorem nodeOk_iff {n : Nod} : nodeOk n = true ↔ (within n.id 1 4 = true ∧ (0 ≤ n.epoch ∧ n.epoch ≤ 30) ∧ (0 ≤ n.voted ∧ n.voted ≤ n.epoch) ∧ n.seen.length ≤ 80 ∧ votesOk n.seen = true) ∧ ∀ v ∈ n.seen, v.by_ = n.id → lastEp v.chain ≤ n.voted := by
  unfold nodeOk nodeOk0
  simp only [Bool.and_eq_true, Bool.not_eq_true', List.any_eq_false, late, decide_eq_true_eq, not_and, and_assoc]
  simp only [within, Bool.and_eq_true, decide_eq_true_eq, and_assoc]
  constructor
  · rintro ⟨a, b, c, d, e, f, g, h, k⟩
    exact ⟨a, b, c, d, e, f, g, h, fun v hv hb => by have := k v hv hb; omega⟩
  · rintro ⟨a, b, c, d, e, f, g, h, k⟩
    exact ⟨a, b, c, d, e, f, g, h, fun v hv hb => by have := k v hv hb; omega⟩
theorem lastEp_snoc (c : List Itm) (x : Itm) : lastEp (c ++ [x]) = x.epoch := by simp [lastEp]
theorem voteF_ok {n : Nod} {c : List Itm} (h : nodeOk n = true) (h0 : 0 < c.length) (hc : chainOk c = true) (hm : mayN n = true) (hl : lastEp c = n.epoch) : nodeOk (voteF n c).1 = true ∧ ((voteF n c).2.2 = true → voteOk (voteF n c).2.1 = true) := by
  have h' := nodeOk_iff.1 h
  obtain ⟨⟨h1, h2, h3, h4, h5⟩, h6⟩ := h'
  have hv : voteOk ⟨n.id, c⟩ = true := by simp [voteOk, h1, h0, hc]
  unfold voteF
  split
  · exact ⟨h, fun h => by cases h⟩
  · rename_i hlen
    have hlen' : n.seen.length < 80 := by simpa using hlen
    simp only [mayN, Bool.and_eq_true, decide_eq_true_eq, bne_iff_ne] at hm
    refine ⟨nodeOk_iff.2 ⟨⟨h1, h2, ⟨h2.1, Int.le_refl _⟩, by simp; omega, votesOk_snoc h5 hv fun hmem => ?_⟩, fun v hv' hb => ?_⟩, fun _ => hv⟩
    · have := h6 _ hmem rfl
      simp only at this
      have := hm.2
      omega
    · rcases List.mem_append.1 hv' with hv' | hv'
      · have := h6 v hv' hb
        show lastEp v.chain ≤ n.epoch
        omega
      · simp at hv'; rw [hv']; show lastEp c ≤ n.epoch; omega
theorem proposeF_ok {n : Nod} (p : Pay) (h : nodeOk n = true) : nodeOk (proposeF n p).1 = true ∧ ((proposeF n p).2.2 = true → voteOk (proposeF n p).2.1 = true) := by
  unfold proposeF
  split
  · rename_i hh
    simp only [Bool.and_eq_true] at hh
    exact voteF_ok h (by simp) hh.2 hh.1.1 (lastEp_snoc _ _)
  · exact ⟨h, fun h => by cases h⟩
theorem tryF_ok {n : Nod} (h : nodeOk n = true) (hm : mayN n = true) : ∀ {l : List Vote}, (∀ v ∈ l, voteOk v = true) → nodeOk (tryF n l).1 = true ∧ ((tryF n l).2.2 = true → voteOk (tryF n l).2.1 = true)
  | [], _ => ⟨h, fun h => by cases h⟩
  | u :: r, hl => by
    simp only [tryF]
    split
    · rename_i hf
      have hu := hl u (by simp)
      simp only [fits, Bool.and_eq_true, decide_eq_true_eq] at hf
      exact voteF_ok h (voteOk_pos hu) (voteOk_chain hu) hm hf.1.1.2
    · exact tryF_ok h hm (fun v hv => hl v (by simp [hv]))
theorem seeF_nok {n : Nod} {v : Vote} (h : nodeOk n = true) (hv : voteOk v = true) (hb : v.by_ ≠ n.id) (hl : n.seen.length < 80) : nodeOk (seeF n v) = true := by
  have h' := nodeOk_iff.1 h
  obtain ⟨⟨h1, h2, h3, h4, h5⟩, h6⟩ := h'
  have hs := seeF_ok h5 hv
  unfold seeF at hs ⊢
  split
  · exact h
  · rename_i hm
    rw [if_neg hm] at hs
    refine nodeOk_iff.2 ⟨⟨h1, h2, h3, by simp; omega, hs⟩, fun u hu hub => ?_⟩
    rcases List.mem_append.1 hu with hu | hu
    · exact h6 u hu hub
    · simp at hu; subst hu; exact absurd hub hb
theorem hearF_ok {n : Nod} (v : Vote) (h : nodeOk n = true) : nodeOk (hearF n v).1 = true ∧ ((hearF n v).2.2 = true → voteOk (hearF n v).2.1 = true) := by
  unfold hearF
  split
  · rename_i hh
    simp only [Bool.and_eq_true, Bool.not_eq_true', decide_eq_false_iff_not, decide_eq_true_eq] at hh
    have hs := seeF_nok h hh.1.1 hh.1.2 hh.2
    split
    · rename_i hm; exact tryF_ok hs hm (votesOk_mem (nodeOk_iff.1 hs).1.2.2.2.2)
    · exact ⟨hs, fun h => by cases h⟩
  · exact ⟨h, fun h => by cases h⟩
theorem enterF_ok {n : Nod} {e : Int} (h : nodeOk n = true) : nodeOk (enterF n e) = true := by
  unfold enterF
  split
  · rename_i hh
    obtain ⟨⟨h1, h2, h3, h4, h5⟩, h6⟩ := nodeOk_iff.1 h
    simp only [within, Bool.and_eq_true, decide_eq_true_eq] at hh
    exact nodeOk_iff.2 ⟨⟨h1, ⟨by show 0 ≤ e; omega, hh.2⟩, ⟨h3.1, by show n.voted ≤ e; omega⟩, h4, h5⟩, h6⟩
  · exact h
/-! ### Worlds stay in form -/
structure FineX (w : Wrld) : Prop where
  ep : 0 ≤ w.epoch ∧ w.epoch ≤ 30
  four : w.nodes.length = 4
  ll : w.log.length ≤ 80
  log : votesOk w.log = true
  nodes : ∀ n ∈ w.nodes, nodeOk n = true
theorem FineX.fine {w : Wrld} (h : FineX w) : Fine w := Fine.mk' h.ep h.four h.ll (votesOk_mem h.log) fun n hn => by
  obtain ⟨⟨h1, h2, h3, h4, h5⟩, h6⟩ := nodeOk_iff.1 (h.nodes n hn)
  exact ⟨h2, h1, h4, votesOk_mem h5⟩
theorem sendF_ok {w : Wrld} {v : Vote} (h : FineX w) (hv : voteOk v = true) : FineX (sendF w v) := by
  unfold sendF
  split
  · rename_i hh
    simp only [Bool.and_eq_true, Bool.not_eq_true', decide_eq_false_iff_not, decide_eq_true_eq] at hh
    exact ⟨h.ep, h.four, by simp; omega, votesOk_snoc h.log hv hh.1, h.nodes⟩
  · exact h
theorem setF_ok {w : Wrld} {k : Nat} {n : Nod} (h : FineX w) (hn : nodeOk n = true) : FineX { w with nodes := w.nodes.set k n } :=
  ⟨h.ep, by simp [h.four], h.ll, h.log, fun m hm => by
    rcases List.mem_or_eq_of_mem_set hm with hm | hm
    · exact h.nodes m hm
    · rw [hm]; exact hn⟩
theorem putF_ok {w : Wrld} {k : Nat} {x : Nod × Vote × Bool} (h : FineX w) (h1 : nodeOk x.1 = true) (h2 : x.2.2 = true → voteOk x.2.1 = true) : FineX (putF w k x) := by
  have h3 := setF_ok (k := k) h h1
  unfold putF
  split
  · rename_i hh; exact sendF_ok h3 (h2 hh)
  · exact h3
theorem tickF_ok {w : Wrld} (h : FineX w) : FineX (tickF w) := by
  have := h.ep
  refine ⟨⟨by show 0 ≤ min (w.epoch + 1) 30; omega, by show min (w.epoch + 1) 30 ≤ 30; omega⟩, by simp [tickF, h.four], h.ll, h.log, fun n hn => ?_⟩
  obtain ⟨m, hm, rfl⟩ := List.mem_map.1 hn
  exact enterF_ok (h.nodes m hm)
theorem wproposeF_ok {w : Wrld} {id : Int} {p : Pay} (h : FineX w) : FineX (wproposeF w id p) := by
  unfold wproposeF
  split
  · split
    · rename_i n hn
      have := proposeF_ok p (h.nodes n (List.mem_of_getElem? hn))
      exact putF_ok h this.1 this.2
    · exact h
  · exact h
theorem wbringF_ok {w : Wrld} {a id : Int} (h : FineX w) : FineX (wbringF w a id) := by
  unfold wbringF
  split
  · split
    · rename_i n v hn hv
      have := hearF_ok v (h.nodes n (List.mem_of_getElem? hn))
      exact putF_ok h this.1 this.2
    · exact h
  · exact h
theorem doF_ok {w : Wrld} (e : Evt) (h : FineX w) : FineX (doF w e) := by
  unfold doF
  split
  · exact tickF_ok h
  · split
    · exact wproposeF_ok h
    · split
      · exact wbringF_ok h
      · split
        · split
          · rename_i hh
            simp only [Bool.and_eq_true] at hh
            exact sendF_ok h hh.1
          · exact h
        · exact h
theorem newW_ok (bad : Int) : FineX (newW bad) := ⟨by simp [newW], rfl, by simp [newW], rfl, by
  intro n hn
  simp [newW, newN] at hn
  rcases hn with rfl | rfl | rfl | rfl <;> rfl⟩
theorem foldl_ok : ∀ (l : List Evt) {w : Wrld}, FineX w → FineX (l.foldl doF w)
  | [], _, h => h
  | e :: r, _, h => foldl_ok r (doF_ok e h)
end Go.Wt

/- The reference: a node of a world proposes, or hears. -/
set_option linter.unusedVariables false
set_option linter.unusedSimpArgs false
namespace Go.Proofs.YtompnmkpgffhkaaGreat
open Go Go.Wt
theorem l12Propose_w (n : Nod) (p : Pay) (h : nodeOk n = true) : CtP Tryz.prog 129 [.v (sN n), .v p] (res3S (proposeF n p)) := by
  obtain ⟨⟨h1, h2, h3, h4, h5⟩, h6⟩ := nodeOk_iff.1 h
  rw [← proposeS_eq p h5 h2]
  exact l12Propose_ct n p ⟨by omega, votesOk_mem h5⟩ h2
theorem l12Hear_w (n : Nod) (v : Vote) (h : nodeOk n = true) (hv : v.chain.length ≤ 1000000) : CtP Tryz.prog 148 [.v (sN n), .v v] (res3S (hearF n v)) := by
  obtain ⟨⟨h1, h2, h3, h4, h5⟩, h6⟩ := nodeOk_iff.1 h
  rw [← hearS_eq h5 h2]
  exact l12Hear_ct n v ⟨by omega, votesOk_mem h5⟩ h2 hv
abbrev so (w : Wrld) : List (Nat × Wt.Obj) := [(1, .arr (w.nodes.map sN))]
theorem sW_put (w : Wrld) (k : Nat) (x : Nod × Vote × Bool) : sW (if x.2.2 then sendF w x.2.1 else w) = sW (putF w k x) := by
  unfold putF
  cases x.2.2 with
  | false => rfl
  | true =>
    show sW (sendF w x.2.1) = sW (sendF _ x.2.1)
    unfold sendF
    simp only
    split <;> rfl
theorem put_nodes (w : Wrld) (k : Nat) (x : Nod × Vote × Bool) : (putF w k x).nodes = w.nodes.set k x.1 := by
  unfold putF
  split
  · unfold sendF; split <;> rfl
  · rfl
theorem set_sN (ns : List Nod) (k : Nat) (n : Nod) (y : NodS) : ((ns.map sN).set k y).set k (sN n) = (ns.set k n).map sN := by
  rw [List.set_set, List.map_set]
set_option maxHeartbeats 4000000 in
theorem l21Propose_ct (w : Wrld) (id : Int) (p : Pay) (hw : FineX w) : CtO Tryz.prog 82 [.v (sW w), .v id, .v p] (so w) (.v (sW (wproposeF w id p))) (so (wproposeF w id p)) := by
  have h4 := hw.four
  refine Ct.intro Tryz.func82 rfl rfl ?_
  all_goals refine awp_seq (awp_region (id := 0) ?_)
  all_goals refine awpOps_cons (op_boxm (o := 5) ty29_WrldS rfl rfl rfl rfl) ?_
  all_goals refine awpOps_cons (op_box (o := 6) ty46 rfl (Conv.of rfl) rfl rfl) ?_
  all_goals refine awpOps_cons (op_alloc (o := 7) z29_WrldS rfl rfl) ?_
  all_goals refine awpOps_nil ?_
  refine awp_seq (awp_seq_to (s' := mkSt 52 [(1, .v id), (3, .box 5 (IsLens.whole WrldS)), (5, .box 6 (IsLens.whole Pay)), (6, .box 7 (IsLens.whole WrldS)), (28, .v (!(within id 1 4 && !decide (id = w.bad) && payOk p && decide (w.log.length < 80))))] [(1, .arr (w.nodes.map sN)), (5, .cell (sW w)), (6, .cell p), (7, .cell WrldS.zero)]) ?_ ?_)
  · all_goals refine awp_region (id := 1) ?_
    all_goals refine awpOps_cons (op_mv rfl (Conv.of rfl) rfl) ?_
    all_goals refine awpOps_cons (op_call fb84 (.cons rfl (Conv.of rfl) (.cons rfl (Conv.of rfl) (.cons rfl (Conv.of rfl) (.nil _)))) (l6In_ct _ _ _) (argOk rfl rfl (argOk rfl rfl (argOk rfl rfl argOk0))) rfl rfl) ?_
    all_goals refine awpOps_cons (op_not rfl rfl) ?_
    all_goals refine awpOps_cons (op_mv rfl (Conv.of rfl) rfl) ?_
    all_goals refine g_split (t := 13) rfl (fun h => ?_) (fun h => ?_)
    all_goals first | refine awpOps_cons (g_off rfl rfl rfl rfl rfl) ?_ | refine awpOps_cons (g_on rfl rfl rfl (op_mv rfl (Conv.of rfl) rfl)) ?_
    all_goals first | refine awpOps_cons (g_off rfl rfl rfl rfl rfl) ?_ | refine awpOps_cons (g_on rfl rfl rfl (op_fab f29_3_WrldS rfl rfl)) ?_
    all_goals first | refine awpOps_cons (g_off rfl rfl rfl rfl rfl) ?_ | refine awpOps_cons (g_on rfl rfl rfl (op_ld ty3 rfl rfl rfl)) ?_
    all_goals first | refine awpOps_cons (g_off rfl rfl rfl rfl rfl) ?_ | refine awpOps_cons (g_on rfl rfl rfl (op_eql rfl rfl rfl)) ?_
    all_goals refine awpOps_cons (op_pick rfl rfl rfl rfl) ?_
    all_goals refine awpOps_cons (op_mv rfl (Conv.of rfl) rfl) ?_
    all_goals first | refine g_lit (t := 19) (b := true) rfl ?_ | refine g_split (t := 19) rfl (fun h => ?_) (fun h => ?_)
    all_goals first | refine awpOps_cons (g_off rfl rfl rfl rfl rfl) ?_ | refine awpOps_cons (g_on rfl rfl rfl (op_ld ty46 rfl rfl rfl)) ?_
    all_goals first | refine awpOps_cons (g_off rfl rfl rfl rfl rfl) ?_ | refine awpOps_cons (g_on rfl rfl rfl (op_call fb127 (.cons rfl (Conv.of rfl) (.nil _)) (sPayOk_ct _) (argOk rfl rfl argOk0) rfl rfl)) ?_
    all_goals first | refine awpOps_cons (g_off rfl rfl rfl rfl rfl) ?_ | refine awpOps_cons (g_on rfl rfl rfl (op_not rfl rfl)) ?_
    all_goals refine awpOps_cons (op_pick rfl rfl rfl rfl) ?_
    all_goals refine awpOps_cons (op_mv rfl (Conv.of rfl) rfl) ?_
    all_goals first | refine g_lit (t := 24) (b := true) rfl ?_ | refine g_split (t := 24) rfl (fun h => ?_) (fun h => ?_)
    all_goals first | refine awpOps_cons (g_off rfl rfl rfl rfl rfl) ?_ | refine awpOps_cons (g_on rfl rfl rfl (op_ldd ty29_WrldS rfl rfl rfl)) ?_
    all_goals first | refine awpOps_cons (g_off rfl rfl rfl rfl rfl) ?_ | refine awpOps_cons (g_on rfl rfl rfl (op_callO fb128 (.cons rfl (Conv.of rfl) (.nil _)) (l21Room_ct w _) (olsk rfl ols0) (oksk (by exact obOkNs) oks0) (oksk (by exact obOkNs) oks0) rfl (argOb rfl rfl rfl argO0) (fun o ho => by cases ho) rfl)) ?_
    all_goals first | refine awpOps_cons (g_off rfl rfl rfl rfl rfl) ?_ | refine awpOps_cons (g_on rfl rfl rfl (op_not rfl rfl)) ?_
    all_goals refine awpOps_cons (op_pick rfl rfl rfl rfl) ?_
    all_goals refine awpOps_nil ?_
    all_goals exact Le.mk rfl (tle rfl (rfl) rfl (tlb rfl rfl rfl (tlb rfl rfl rfl (tlb rfl rfl rfl (tle rfl (by (simp_all [sW]; try (rw [Bool.eq_iff_iff]; simp; try omega))) rfl tln))))) (olk rfl (by exact obOkNs) (olk rfl (by exact obOkS rfl) (olk rfl (by exact obOk_cell) (olk rfl (by exact obOkS0) oln)))) (hS_sub (a := so w) rfl)
  refine awp_cond rfl (fun h => ?_) (fun h => ?_)
  · all_goals refine awp_seq (awp_region (id := 2) ?_)
    all_goals refine awpOps_cons (op_ldm ty29_WrldS rfl rfl rfl) ?_
    all_goals refine awpOps_cons (op_stm ty29_WrldS rfl rfl rfl) ?_
    all_goals refine awpOps_nil ?_
    refine awp_ret ?_
    repeat first | refine rt_seq ?_ | refine rt_block ?_
    refine ⟨_, _, res1C (ol := so w) ty29_WrldS rfl rfl (inOne rfl) (olk rfl obOkNs oln) (hS_sub rfl), ?_, ?_⟩
    · have h' := not_t h
      have e : wproposeF w id p = w := by
        unfold wproposeF honestB
        rw [if_neg]
        intro hh
        simp only [Bool.and_eq_true] at hh
        simp [hh.1.1.1, hh.1.1.2, hh.1.2, hh.2] at h'
      rw [e]
    · have h' := not_t h
      have e : wproposeF w id p = w := by
        unfold wproposeF honestB
        rw [if_neg]
        intro hh
        simp only [Bool.and_eq_true] at hh
        simp [hh.1.1.1, hh.1.1.2, hh.1.2, hh.2] at h'
      rw [e]
  · have h' := not_f h
    simp only [Bool.and_eq_true] at h'
    have hid : 1 ≤ id ∧ id ≤ 4 := by simpa [within] using h'.1.1.1
    have hlt : (id - 1).toNat < w.nodes.length := by omega
    have hx : w.nodes[(id - 1).toNat]? = some w.nodes[(id - 1).toNat] := List.getElem?_eq_getElem hlt
    have hno := hw.nodes _ (List.getElem_mem hlt)
    generalize hnn : w.nodes[(id - 1).toNat] = n at hx hno
    have hx' : (w.nodes.map sN)[(id - 1).toNat]? = some (sN n) := by rw [List.getElem?_map, hx]; rfl
    have hy : ∀ y : NodS, ((w.nodes.map sN).set (id - 1).toNat y)[(id - 1).toNat]? = some y := fun y => by
      rw [List.getElem?_set_self (by rw [List.length_map]; exact hlt)]
    have hln : ((w.nodes.map sN).length : Int) = 4 := by simp [h4]
    have hgd := hw.fine.seen n (List.mem_of_getElem? hx)
    have e : wproposeF w id p = putF w (id - 1).toNat (proposeF n p) := by
      unfold wproposeF honestB
      rw [if_pos (by simp only [h'.1.1.1, h'.1.1.2, h'.1.2, h'.2, Bool.and_self]), hx]
    rw [e]
    refine awp_skip ?_
    all_goals refine awp_seq (dr_start (id := 3) ?_)
    all_goals refine dr_cons (op_fab f29_1_WrldS rfl rfl) ?_
    all_goals refine dr_cons (op_ld ty26_NRef rfl rfl rfl) ?_
    all_goals refine dr_cons (op_mv rfl (Conv.of rfl) rfl) ?_
    all_goals refine dr_cons (op_sub rfl rfl rfl (by omega)) ?_
    all_goals refine dr_cons (op_ixA sl26_NodS rfl rfl rfl rfl ⟨by omega, by omega⟩) ?_
    all_goals refine dr_cons (op_ldme ty39_NodS rfl rfl hx' rfl) ?_
    all_goals refine dr_cons (op_ld ty46 rfl rfl rfl) ?_
    all_goals refine dr_cons (OpOk.emit (d := 38) (o' := 9) 28 (op_callM (s := 36) (ol := []) (ol' := []) (pre := []) fb129 (.nil _) rfl (.cons rfl (Conv.of rfl) (.nil _)) (l12Propose_w n p hno) ols0 oks0 oks0 rfl argO0 (argOk' rfl rfl argO0) (fun o ho => absurd (show o ∈ ([] : List Nat) from ho) (by simp)) (fun o ho => absurd (show o ∈ ([] : List Nat) from ho) (by simp)) rfl) rfl rfl rfl rfl rfl) ?_
    all_goals refine dr_cons (op_mv rfl (Conv.of rfl) rfl) ?_
    all_goals refine dr_cons (op_ext rfl rfl rfl) ?_
    all_goals refine dr_cons (op_ext rfl rfl rfl) ?_
    all_goals refine dr_cons (op_ext rfl rfl rfl) ?_
    all_goals refine dr_cons (op_alloc (o := 10) z39_NodR rfl rfl) ?_
    all_goals refine dr_cons (op_alloc (o := 11) z48 rfl rfl) ?_
    all_goals refine dr_cons (op_st ty39_NodR rfl rfl (Conv.of rfl) rfl) ?_
    all_goals refine dr_cons (op_st ty48 rfl rfl (Conv.of rfl) rfl) ?_
    all_goals refine dr_cons (op_as rfl (Conv.of rfl) rfl) ?_
    all_goals refine dr_nil mixed rfl ?_
    all_goals refine awp_seq (awp_region (id := 4) ?_)
    all_goals refine awpOps_cons (op_fab f29_1_WrldS rfl rfl) ?_
    all_goals refine awpOps_cons (op_ld ty26_NRef rfl rfl rfl) ?_
    all_goals refine awpOps_cons (op_mv rfl (Conv.of rfl) rfl) ?_
    all_goals refine awpOps_cons (op_sub rfl rfl rfl (by omega)) ?_
    all_goals refine awpOps_cons (op_ld ty39_NodR rfl rfl rfl) ?_
    all_goals refine awpOps_cons (op_ixA sl26_NodS rfl rfl rfl rfl ⟨by omega, by simp; omega⟩) ?_
    all_goals refine awpOps_cons (op_steR 28 rfl ty39_NodS rfl rfl rfl rfl (hy _)) ?_
    all_goals refine awpOps_nil ?_
    all_goals refine awp_seq (awp_region (id := 5) ?_)
    all_goals refine awpOps_cons (op_ldm ty29_WrldS rfl rfl rfl) ?_
    all_goals refine awpOps_cons (op_ld ty48 rfl rfl rfl) ?_
    all_goals refine awpOps_cons (op_mv rfl (Conv.of rfl) rfl) ?_
    all_goals refine awpOps_cons (op_callM (s := 48) (pre := []) fb108 (.nil _) rfl (.cons rfl (Conv.of rfl) (.cons rfl (Conv.of rfl) (.nil _))) (l21Send_ct w _ _ _ hw.fine.log (proposeF_len p hgd)) (olsk rfl ols0) (oksk (by exact obOkNs) oks0) (oksk (by exact obOkNs) oks0) rfl argO0 (argOk' rfl rfl (argOk' rfl rfl argO0)) (inOne rfl) (inOne rfl) rfl) ?_
    all_goals refine awpOps_cons (op_stm ty29_WrldS rfl rfl rfl) ?_
    all_goals refine awpOps_nil ?_
    refine awp_ret ?_
    repeat first | refine rt_seq ?_ | refine rt_block ?_
    refine ⟨_, _, res1C (ol := [(1, .arr _)]) ty29_WrldS rfl rfl (inOne rfl) (olk rfl obOkNs oln) (hS_sub rfl), ?_, ?_⟩
    · rw [← sW_put]; rfl
    · exact congrArg (fun z => obs [(1, Wt.Obj.arr z)]) (by rw [put_nodes]; exact set_sN _ _ _ _)
set_option maxHeartbeats 4000000 in
theorem l21Bring_ct (w : Wrld) (at_ id : Int) (hw : FineX w) : CtO Tryz.prog 106 [.v (sW w), .v at_, .v id] (so w) (.v (sW (wbringF w at_ id))) (so (wbringF w at_ id)) := by
  have h4 := hw.four
  have hlg := hw.fine.log.len
  have hidle : ∀ h' : (within at_ 0 ((w.log.length : Int) - 1) && within id 1 4 && !decide (id = w.bad) && decide (w.log.length < 80)) = false, wbringF w at_ id = w := fun h' => by
    unfold wbringF honestB
    rw [if_neg]
    intro hh
    simp only [Bool.and_eq_true] at hh
    simp [hh.1.1.1, hh.1.1.2, hh.1.2, hh.2] at h'
  refine Ct.intro Tryz.func106 rfl rfl ?_
  all_goals refine awp_seq (awp_region (id := 0) ?_)
  all_goals refine awpOps_cons (op_boxm (o := 5) ty29_WrldS rfl rfl rfl rfl) ?_
  all_goals refine awpOps_cons (op_alloc (o := 6) z29_WrldS rfl rfl) ?_
  all_goals refine awpOps_nil ?_
  refine awp_seq (awp_seq_to (s' := mkSt 60 [(1, .v at_), (2, .v id), (3, .box 5 (IsLens.whole WrldS)), (6, .box 6 (IsLens.whole WrldS)), (32, .v (!(within at_ 0 ((w.log.length : Int) - 1) && within id 1 4 && !decide (id = w.bad) && decide (w.log.length < 80))))] [(1, .arr (w.nodes.map sN)), (5, .cell (sW w)), (6, .cell WrldS.zero)]) ?_ ?_)
  · all_goals refine awp_region (id := 1) ?_
    all_goals refine awpOps_cons (op_mv rfl (Conv.of rfl) rfl) ?_
    all_goals refine awpOps_cons (op_fab f29_2_WrldS rfl rfl) ?_
    all_goals refine awpOps_cons (op_ldl ty27_OListVote rfl rfl rfl) ?_
    all_goals refine awpOps_cons (op_len sl27 rfl rfl) ?_
    all_goals refine awpOps_cons (op_sub rfl rfl rfl (by (simp only [sW]; omega))) ?_
    all_goals refine awpOps_cons (op_call fb84 (.cons rfl (Conv.of rfl) (.cons rfl (Conv.of rfl) (.cons rfl (Conv.of rfl) (.nil _)))) (l6In_ct _ _ _) (argOk rfl rfl (argOk rfl rfl (argOk rfl rfl argOk0))) rfl rfl) ?_
    all_goals refine awpOps_cons (op_not rfl rfl) ?_
    all_goals refine awpOps_cons (op_mv rfl (Conv.of rfl) rfl) ?_
    all_goals refine g_split (t := 17) rfl (fun h => ?_) (fun h => ?_)
    all_goals first | refine awpOps_cons (g_off rfl rfl rfl rfl rfl) ?_ | refine awpOps_cons (g_on rfl rfl rfl (op_mv rfl (Conv.of rfl) rfl)) ?_
    all_goals first | refine awpOps_cons (g_off rfl rfl rfl rfl rfl) ?_ | refine awpOps_cons (g_on rfl rfl rfl (op_call fb84 (.cons rfl (Conv.of rfl) (.cons rfl (Conv.of rfl) (.cons rfl (Conv.of rfl) (.nil _)))) (l6In_ct _ _ _) (argOk rfl rfl (argOk rfl rfl (argOk rfl rfl argOk0))) rfl rfl)) ?_
    all_goals first | refine awpOps_cons (g_off rfl rfl rfl rfl rfl) ?_ | refine awpOps_cons (g_on rfl rfl rfl (op_not rfl rfl)) ?_
    all_goals refine awpOps_cons (op_pick rfl rfl rfl rfl) ?_
    all_goals refine awpOps_cons (op_mv rfl (Conv.of rfl) rfl) ?_
    all_goals first | refine g_lit (t := 22) (b := true) rfl ?_ | refine g_split (t := 22) rfl (fun h => ?_) (fun h => ?_)
    all_goals first | refine awpOps_cons (g_off rfl rfl rfl rfl rfl) ?_ | refine awpOps_cons (g_on rfl rfl rfl (op_mv rfl (Conv.of rfl) rfl)) ?_
    all_goals first | refine awpOps_cons (g_off rfl rfl rfl rfl rfl) ?_ | refine awpOps_cons (g_on rfl rfl rfl (op_fab f29_3_WrldS rfl rfl)) ?_
    all_goals first | refine awpOps_cons (g_off rfl rfl rfl rfl rfl) ?_ | refine awpOps_cons (g_on rfl rfl rfl (op_ld ty3 rfl rfl rfl)) ?_
    all_goals first | refine awpOps_cons (g_off rfl rfl rfl rfl rfl) ?_ | refine awpOps_cons (g_on rfl rfl rfl (op_eql rfl rfl rfl)) ?_
    all_goals refine awpOps_cons (op_pick rfl rfl rfl rfl) ?_
    all_goals refine awpOps_cons (op_mv rfl (Conv.of rfl) rfl) ?_
    all_goals first | refine g_lit (t := 28) (b := true) rfl ?_ | refine g_split (t := 28) rfl (fun h => ?_) (fun h => ?_)
    all_goals first | refine awpOps_cons (g_off rfl rfl rfl rfl rfl) ?_ | refine awpOps_cons (g_on rfl rfl rfl (op_ldd ty29_WrldS rfl rfl rfl)) ?_
    all_goals first | refine awpOps_cons (g_off rfl rfl rfl rfl rfl) ?_ | refine awpOps_cons (g_on rfl rfl rfl (op_callO fb128 (.cons rfl (Conv.of rfl) (.nil _)) (l21Room_ct w _) (olsk rfl ols0) (oksk (by exact obOkNs) oks0) (oksk (by exact obOkNs) oks0) rfl (argOb rfl rfl rfl argO0) (fun o ho => by cases ho) rfl)) ?_
    all_goals first | refine awpOps_cons (g_off rfl rfl rfl rfl rfl) ?_ | refine awpOps_cons (g_on rfl rfl rfl (op_not rfl rfl)) ?_
    all_goals refine awpOps_cons (op_pick rfl rfl rfl rfl) ?_
    all_goals refine awpOps_nil ?_
    all_goals exact Le.mk rfl (tle rfl (rfl) rfl (tle rfl (rfl) rfl (tlb rfl rfl rfl (tlb rfl rfl rfl (tle rfl (by (simp_all [sW]; try (rw [Bool.eq_iff_iff]; simp; try omega))) rfl tln))))) (olk rfl (by exact obOkNs) (olk rfl (by exact obOkS rfl) (olk rfl (by exact obOkS0) oln))) (hS_sub (a := so w) rfl)
  refine awp_cond rfl (fun h => ?_) (fun h => ?_)
  · all_goals refine awp_seq (awp_region (id := 2) ?_)
    all_goals refine awpOps_cons (op_ldm ty29_WrldS rfl rfl rfl) ?_
    all_goals refine awpOps_cons (op_stm ty29_WrldS rfl rfl rfl) ?_
    all_goals refine awpOps_nil ?_
    refine awp_ret ?_
    repeat first | refine rt_seq ?_ | refine rt_block ?_
    refine ⟨_, _, res1C (ol := so w) ty29_WrldS rfl rfl (inOne rfl) (olk rfl obOkNs oln) (hS_sub rfl), ?_, ?_⟩
    · rw [hidle (not_t h)]
    · rw [hidle (not_t h)]
  · have h' := not_f h
    simp only [Bool.and_eq_true] at h'
    have hid : 1 ≤ id ∧ id ≤ 4 := by simpa [within] using h'.1.1.2
    have hat : 0 ≤ at_ ∧ at_ ≤ (w.log.length : Int) - 1 := by simpa [within] using h'.1.1.1
    have hlt : (id - 1).toNat < w.nodes.length := by omega
    have hx : w.nodes[(id - 1).toNat]? = some w.nodes[(id - 1).toNat] := List.getElem?_eq_getElem hlt
    have hltv : at_.toNat < w.log.length := by omega
    have hv : w.log[at_.toNat]? = some w.log[at_.toNat] := List.getElem?_eq_getElem hltv
    have hno := hw.nodes _ (List.getElem_mem hlt)
    have hvl := hw.fine.log.v _ (List.getElem_mem hltv)
    generalize hnn : w.nodes[(id - 1).toNat] = n at hx hno
    generalize hvv : w.log[at_.toNat] = v at hv hvl
    have hv' : (sW w).log.l[at_.toNat]? = some v := hv
    have hx' : (w.nodes.map sN)[(id - 1).toNat]? = some (sN n) := by rw [List.getElem?_map, hx]; rfl
    have hy : ∀ y : NodS, ((w.nodes.map sN).set (id - 1).toNat y)[(id - 1).toNat]? = some y := fun y => by
      rw [List.getElem?_set_self (by rw [List.length_map]; exact hlt)]
    have hln : ((w.nodes.map sN).length : Int) = 4 := by simp [h4]
    have hgd := hw.fine.seen n (List.mem_of_getElem? hx)
    have e : wbringF w at_ id = putF w (id - 1).toNat (hearF n v) := by
      unfold wbringF honestB
      rw [if_pos (by simp only [h'.1.1.1, h'.1.1.2, h'.1.2, h'.2, Bool.and_self]), hx, hv]
    rw [e]
    refine awp_skip ?_
    all_goals refine awp_seq (dr_start (id := 3) ?_)
    all_goals refine dr_cons (op_fab f29_1_WrldS rfl rfl) ?_
    all_goals refine dr_cons (op_ld ty26_NRef rfl rfl rfl) ?_
    all_goals refine dr_cons (op_mv rfl (Conv.of rfl) rfl) ?_
    all_goals refine dr_cons (op_sub rfl rfl rfl (by omega)) ?_
    all_goals refine dr_cons (op_ixA sl26_NodS rfl rfl rfl rfl ⟨by omega, by omega⟩) ?_
    all_goals refine dr_cons (op_ldme ty39_NodS rfl rfl hx' rfl) ?_
    all_goals refine dr_cons (op_fab f29_2_WrldS rfl rfl) ?_
    all_goals refine dr_cons (op_ldl ty27_OListVote rfl rfl rfl) ?_
    all_goals refine dr_cons (op_mv rfl (Conv.of rfl) rfl) ?_
    all_goals refine dr_cons (op_ix sl27 rfl rfl rfl (by omega) hv') ?_
    all_goals refine dr_cons (op_ldr ty48 rfl rfl) ?_
    all_goals refine dr_cons (OpOk.emit (d := 46) (o' := 9) 32 (op_callM (s := 40) (ol := []) (ol' := []) (pre := []) fb148 (.nil _) rfl (.cons rfl (Conv.of rfl) (.nil _)) (l12Hear_w n v hno hvl) ols0 oks0 oks0 rfl argO0 (argOk' rfl rfl argO0) (fun o ho => absurd (show o ∈ ([] : List Nat) from ho) (by simp)) (fun o ho => absurd (show o ∈ ([] : List Nat) from ho) (by simp)) rfl) rfl rfl rfl rfl rfl) ?_
    all_goals refine dr_cons (op_mv rfl (Conv.of rfl) rfl) ?_
    all_goals refine dr_cons (op_ext rfl rfl rfl) ?_
    all_goals refine dr_cons (op_ext rfl rfl rfl) ?_
    all_goals refine dr_cons (op_ext rfl rfl rfl) ?_
    all_goals refine dr_cons (op_alloc (o := 10) z39_NodR rfl rfl) ?_
    all_goals refine dr_cons (op_alloc (o := 11) z48 rfl rfl) ?_
    all_goals refine dr_cons (op_st ty39_NodR rfl rfl (Conv.of rfl) rfl) ?_
    all_goals refine dr_cons (op_st ty48 rfl rfl (Conv.of rfl) rfl) ?_
    all_goals refine dr_cons (op_as rfl (Conv.of rfl) rfl) ?_
    all_goals refine dr_nil mixed rfl ?_
    all_goals refine awp_seq (awp_region (id := 4) ?_)
    all_goals refine awpOps_cons (op_fab f29_1_WrldS rfl rfl) ?_
    all_goals refine awpOps_cons (op_ld ty26_NRef rfl rfl rfl) ?_
    all_goals refine awpOps_cons (op_mv rfl (Conv.of rfl) rfl) ?_
    all_goals refine awpOps_cons (op_sub rfl rfl rfl (by omega)) ?_
    all_goals refine awpOps_cons (op_ld ty39_NodR rfl rfl rfl) ?_
    all_goals refine awpOps_cons (op_ixA sl26_NodS rfl rfl rfl rfl ⟨by omega, by simp; omega⟩) ?_
    all_goals refine awpOps_cons (op_steR 32 rfl ty39_NodS rfl rfl rfl rfl (hy _)) ?_
    all_goals refine awpOps_nil ?_
    all_goals refine awp_seq (awp_region (id := 5) ?_)
    all_goals refine awpOps_cons (op_ldm ty29_WrldS rfl rfl rfl) ?_
    all_goals refine awpOps_cons (op_ld ty48 rfl rfl rfl) ?_
    all_goals refine awpOps_cons (op_mv rfl (Conv.of rfl) rfl) ?_
    all_goals refine awpOps_cons (op_callM (s := 56) (pre := []) fb108 (.nil _) rfl (.cons rfl (Conv.of rfl) (.cons rfl (Conv.of rfl) (.nil _))) (l21Send_ct w _ _ _ hw.fine.log (hearF_len v hgd)) (olsk rfl ols0) (oksk (by exact obOkNs) oks0) (oksk (by exact obOkNs) oks0) rfl argO0 (argOk' rfl rfl (argOk' rfl rfl argO0)) (inOne rfl) (inOne rfl) rfl) ?_
    all_goals refine awpOps_cons (op_stm ty29_WrldS rfl rfl rfl) ?_
    all_goals refine awpOps_nil ?_
    refine awp_ret ?_
    repeat first | refine rt_seq ?_ | refine rt_block ?_
    refine ⟨_, _, res1C (ol := [(1, .arr _)]) ty29_WrldS rfl rfl (inOne rfl) (olk rfl obOkNs oln) (hS_sub rfl), ?_, ?_⟩
    · rw [← sW_put]; rfl
    · exact congrArg (fun z => obs [(1, Wt.Obj.arr z)]) (by rw [put_nodes]; exact set_sN _ _ _ _)
end Go.Proofs.YtompnmkpgffhkaaGreat

/- Rows of the reference, taken for rows of the program; results that are written no more. -/
set_option linter.unusedVariables false
set_option linter.unusedSimpArgs false
namespace Go.Wt
open Go
theorem rd_SN {G : Gh} {w : Go.World} {ω : Owner} {n : Nod} {cs : List Value} (h : Enc.rd G w ω (sN n) cs) : Enc.rd G w ω n cs := by
  obtain ⟨c1, c2, rfl, r1, ⟨c3, c4, rfl, r3, ⟨c5, c6, rfl, r5, ⟨a, cap, h1, h2, h3, h4⟩⟩⟩⟩ := h
  exact ⟨c1, _, rfl, r1, c3, _, rfl, r3, c5, _, rfl, r5, ⟨a, cap, h1, h2, h3⟩⟩
theorem arr_n {G : Gh} {w : Go.World} {o : Nat} {ns : List Nod} (h : RelO G w o (.arr (ns.map sN))) : RelO G w o (.arr ns) := by
  obtain ⟨b, cap, cs, e, h1, h2, h3, h4, h5, h6⟩ := h
  refine ⟨b, cap, cs, e, by simpa using h1, h2, by simpa using h3, h4, fun i x hx => ?_, h6⟩
  obtain ⟨c, c1, c2⟩ := h5 i (sN x) (by rw [List.getElem?_map, hx]; rfl)
  exact ⟨c, rd_SN c1, c2⟩
theorem rd_sA {G : Gh} {w : Go.World} {ω : Owner} {x : Wrld} {cs : List Value} (h : Enc.rd G w ω (sW x) cs) : Enc.rd G w ω (wA x) cs := by
  obtain ⟨c1, c2, rfl, r1, ⟨c3, c4, rfl, r3, ⟨c5, c6, rfl, ⟨a, cap, h1, h2, h3, h4⟩, r6⟩⟩⟩ := h
  exact ⟨c1, _, rfl, r1, c3, _, rfl, r3, c5, c6, rfl, ⟨a, cap, h1, h2, h3⟩, r6⟩
theorem frzS_one {w : Wrld} (hB : w.nodes.length ≤ big) : ∀ (G : Gh) (wd : Go.World) (u : Value), RelV G wd (.ret, []) (.v (sW w)) u → (∀ k, RelO G wd k (obs [(1, .arr (w.nodes.map sN))] k)) →
    ∃ G', RelV G' wd (.ret, []) (.v w) u ∧ (∀ o, RelO G' wd o .free) ∧ ∀ S, (∀ o, ¬ S o) → Keep S G wd G' wd := by
  intro G wd u ⟨cs, h1, h2⟩ ho
  obtain ⟨k, k1, k2⟩ := wrl_frz (rd_sA h1) (by have := ho 1; exact arr_n (by simpa [obs, lk0, orr] using this)) hB
  exact ⟨_, ⟨cs, k2 _, h2⟩, frz_free, k1⟩
theorem frzS_ok {w : Wrld} {ok : Bool} (hB : w.nodes.length ≤ big) : ∀ (G : Gh) (wd : Go.World) (u : Value), RelV G wd (.ret, []) (.tup [.v (sW w), .v ok]) u → (∀ k, RelO G wd k (obs [(1, .arr (w.nodes.map sN))] k)) →
    ∃ G', RelV G' wd (.ret, []) (.tup [.v w, .v ok]) u ∧ (∀ o, RelO G' wd o .free) ∧ ∀ S, (∀ o, ¬ S o) → Keep S G wd G' wd := by
  intro G wd u ⟨us, e0, u1, r1, e1, ⟨cs, h1, h2⟩, u2, r2, e2, ⟨cs2, h3, h4⟩, h5⟩ ho
  obtain ⟨k, k1, k2⟩ := wrl_frz (rd_sA h1) (by have := ho 1; exact arr_n (by simpa [obs, lk0, orr] using this)) hB
  exact ⟨_, ⟨us, e0, u1, r1, e1, ⟨cs, k2 _, h2⟩, u2, r2, e2, ⟨cs2, h3, h4⟩, h5⟩, frz_free, k1⟩
/-- The objects behind a call may be taken for others. -/
theorem Ct.obs {P : Program} {f : FuncId} {args : List AV} {h h' h'' : Nat → Wt.Obj} {r : AV} (k : Ct P f args h fun r1 h1 => r1 = r ∧ h1 = h') (hx : ∀ G w, (∀ o, RelO G w o (h' o)) → ∀ o, RelO G w o (h'' o)) :
    Ct P f args h fun r1 h1 => r1 = r ∧ h1 = h'' := fun G w vs h1 h2 =>
  (k G w vs h1 h2).mono fun e w' ⟨r1, h1', v, G', e1, ⟨e2, e3⟩, e4, e5, e6⟩ => by
    subst e2 e3
    exact ⟨_, h'', v, G', e1, ⟨rfl, rfl⟩, e4, hx G' w' e5, e6⟩
/-- A result may be taken for another. -/
theorem Ct.res {P : Program} {f : FuncId} {args : List AV} {h h' : Nat → Wt.Obj} {r r' : AV} (k : Ct P f args h fun r1 h1 => r1 = r ∧ h1 = h') (hx : ∀ G w u, RelV G w (.ret, []) r u → RelV G w (.ret, []) r' u) :
    Ct P f args h fun r1 h1 => r1 = r' ∧ h1 = h' := fun G w vs h1 h2 =>
  (k G w vs h1 h2).mono fun e w' ⟨r1, h1', v, G', e1, ⟨e2, e3⟩, e4, e5, e6⟩ => by
    subst e2 e3
    exact ⟨_, _, v, G', e1, ⟨rfl, rfl⟩, hx _ _ _ e4, e5, e6⟩
end Go.Wt

/- The reference: what happens in a world; a play. -/
set_option linter.unusedVariables false
set_option linter.unusedSimpArgs false
namespace Go.Proofs.YtompnmkpgffhkaaGreat
open Go Go.Wt
theorem send_nodes (w : Wrld) (v : Vote) : (sendF w v).nodes = w.nodes := by unfold sendF; split <;> rfl
set_option maxHeartbeats 1000000 in
theorem l21Tick_ct (w : Wrld) (hw : Fine w) : CtO Tryz.prog 81 [.v (sW w)] (so w) (.v (sW (tickF w))) (so (tickF w)) := by
  have hep := hw.ep
  have h4 := hw.four
  refine Ct.intro Tryz.func81 rfl rfl ?_
  all_goals refine awp_seq (awp_region (id := 0) ?_)
  all_goals refine awpOps_cons (op_boxm (o := 5) ty29_WrldS rfl rfl rfl rfl) ?_
  all_goals refine awpOps_cons (op_alloc (o := 6) z29_WrldS rfl rfl) ?_
  all_goals refine awpOps_nil ?_
  all_goals refine awp_seq (awp_region (id := 1) ?_)
  all_goals refine awpOps_cons (op_fab f29_0_WrldS rfl rfl) ?_
  all_goals refine awpOps_cons (op_ld ty3 rfl rfl rfl) ?_
  all_goals refine awpOps_cons (op_add rfl rfl rfl (by ((try simp only [sW]); omega))) ?_
  all_goals refine awpOps_cons (op_min rfl rfl rfl) ?_
  all_goals refine awpOps_cons (op_fab f29_0_WrldS rfl rfl) ?_
  all_goals refine awpOps_cons (op_st ty3 rfl rfl (Conv.of rfl) rfl) ?_
  all_goals refine awpOps_nil ?_
  all_goals refine awp_seq (awp_seq (awp_region (id := 2) ?_))
  all_goals refine awpOps_cons (op_as rfl (Conv.of rfl) rfl) ?_
  all_goals refine awpOps_nil ?_
  refine awp_block ?_
  refine awp_loop' (fun n_ s => ∃ (k : Nat), ∃ (hn : n_ + k = 4), s = mkSt 29 [(1, .box 5 (IsLens.whole WrldS)), (2, .box 6 (IsLens.whole WrldS)), (3, .v (k : Int))] [(1, .arr (((w.nodes.take k).map (fun n => enterF n (min (w.epoch + 1) 30)) ++ w.nodes.drop k).map sN)), (5, .cell (sW (tickF w))), (6, .cell WrldS.zero)]) (4) ⟨0, by omega, rfl⟩ (Le.mk rfl (tlb rfl rfl rfl (tlb rfl rfl rfl (tle rfl (rfl) rfl tln))) (olk (by rfl) (by exact obOkNs) (olk rfl (by exact obOkS rfl) (olk rfl (by exact obOkS0) oln))) (hS_sub (a := so w) rfl)) ?_
  rintro n_ s ⟨k, hn, rfl⟩
  have hlen : (((w.nodes.take k).map (fun n => enterF n (min (w.epoch + 1) 30)) ++ w.nodes.drop k).map sN).length = 4 := by simp; omega
  all_goals refine awp_seq (awp_seq (awp_region (id := 3) ?_))
  all_goals refine awpOps_cons (op_mv rfl (Conv.of rfl) rfl) ?_
  all_goals refine awpOps_cons (op_fab f29_1_WrldS rfl rfl) ?_
  all_goals refine awpOps_cons (op_ld ty26_NRef rfl rfl rfl) ?_
  all_goals refine awpOps_cons (op_lenA sl26_NodS rfl rfl rfl) ?_
  all_goals refine awpOps_cons (op_lss rfl rfl rfl) ?_
  all_goals refine awpOps_nil ?_
  refine awp_cond rfl (fun h => ?_) (fun h => ?_)
  · have hlt : k < 4 := by rw [hlen] at h; simp at h; omega
    have hx : w.nodes[k]? = some w.nodes[k] := List.getElem?_eq_getElem (by omega)
    have hx' : (((w.nodes.take k).map (fun n => enterF n (min (w.epoch + 1) 30)) ++ w.nodes.drop k).map sN)[(k : Int).toNat]? = some (sN w.nodes[k]) := by
      rw [List.getElem?_map, List.getElem?_append_right (by simp; omega)]
      simp [Nat.min_eq_left (show k ≤ w.nodes.length by omega), hx]
    have hne := hw.nep _ (List.getElem_mem (show k < w.nodes.length by omega))
    have hy : ∀ y : NodS, ((((w.nodes.take k).map (fun n => enterF n (min (w.epoch + 1) 30)) ++ w.nodes.drop k).map sN).set (k : Int).toNat y)[(k : Int).toNat]? = some y := fun y => by
      rw [List.getElem?_set_self (by rw [hlen]; omega)]
    have hnext : ∀ y : NodS, ((((w.nodes.take k).map (fun n => enterF n (min (w.epoch + 1) 30)) ++ w.nodes.drop k).map sN).set (k : Int).toNat y).set (k : Int).toNat (sN (enterF w.nodes[k] (min (w.epoch + 1) 30))) = ((w.nodes.take (k + 1)).map (fun n => enterF n (min (w.epoch + 1) 30)) ++ w.nodes.drop (k + 1)).map sN := fun y => by
      rw [set_sN]
      exact congrArg _ (tick_step hx).symm
    refine awp_skip ?_
    refine awp_seq (awp_block ?_)
    all_goals refine dr_start (id := 5) ?_
    all_goals refine dr_cons (op_fab f29_1_WrldS rfl rfl) ?_
    all_goals refine dr_cons (op_ld ty26_NRef rfl rfl rfl) ?_
    all_goals refine dr_cons (op_mv rfl (Conv.of rfl) rfl) ?_
    all_goals refine dr_cons (op_fab f29_1_WrldS rfl rfl) ?_
    all_goals refine dr_cons (op_ld ty26_NRef rfl rfl rfl) ?_
    all_goals refine dr_cons (op_mv rfl (Conv.of rfl) rfl) ?_
    all_goals refine dr_cons (op_ixA sl26_NodS rfl rfl rfl rfl ⟨by omega, by omega⟩) ?_
    all_goals refine dr_cons (op_ldme ty39_NodS rfl rfl hx' rfl) ?_
    all_goals refine dr_cons (op_fab f29_0_WrldS rfl rfl) ?_
    all_goals refine dr_cons (op_ld ty3 rfl rfl rfl) ?_
    all_goals refine dr_cons (op_callM (s := 23) (ol := []) (ol' := []) (pre := []) fb126 (.nil _) rfl (.cons rfl (Conv.of rfl) (.nil _)) (l12Enter_ct _ _ hne) ols0 oks0 oks0 rfl argO0 (argOk' rfl rfl argO0) (fun o ho => absurd (show o ∈ ([] : List Nat) from ho) (by simp)) (fun o ho => absurd (show o ∈ ([] : List Nat) from ho) (by simp)) rfl) ?_
    all_goals refine dr_cons (op_ixA sl26_NodS rfl rfl rfl rfl ⟨by omega, by rw [List.length_set]; omega⟩) ?_
    all_goals refine dr_cons (op_stme ty39_NodS rfl rfl rfl (hy _)) ?_
    all_goals refine dr_nil mixed rfl ?_
    all_goals refine awp_region (id := 4) ?_
    all_goals refine awpOps_cons (op_mv rfl (Conv.of rfl) rfl) ?_
    all_goals refine awpOps_cons (op_add rfl rfl rfl (by omega)) ?_
    all_goals refine awpOps_cons (op_as rfl (Conv.of rfl) rfl) ?_
    all_goals refine awpOps_nil ?_
    repeat first | refine nx_seq ?_ | refine nx_block ?_
    exact ⟨n_ - 1, _, by omega, ⟨k + 1, by omega, rfl⟩, Le.mk rfl (tlb rfl rfl rfl (tlb rfl rfl rfl (tle rfl (rfl) rfl tln))) (olk (by (exact congrArg Obj.arr (hnext _))) (by exact obOkNs) (olk rfl (by exact obOkS rfl) (olk rfl (by exact obOkS0) oln))) (hS_sub (a := so w) rfl)⟩
  · refine awp_exit ?_
    repeat refine ex_seq ?_
    refine ex_block ?_
    have hk : k = 4 := by rw [hlen] at h; simp at h; omega
    subst hk
    all_goals refine awp_seq (awp_region (id := 6) ?_)
    all_goals refine awpOps_cons (op_ldm ty29_WrldS rfl rfl rfl) ?_
    all_goals refine awpOps_cons (op_stm ty29_WrldS rfl rfl rfl) ?_
    all_goals refine awpOps_nil ?_
    refine awp_ret ?_
    repeat first | refine rt_seq ?_ | refine rt_block ?_
    refine ⟨_, _, res1C (ol := [(1, .arr _)]) ty29_WrldS rfl rfl (inOne rfl) (olk rfl obOkNs oln) (hS_sub rfl), rfl, ?_⟩
    exact congrArg (fun z => obs [(1, Wt.Obj.arr z)]) (by rw [take_end (by omega), drop_end (by omega), List.append_nil]; rfl)
set_option maxHeartbeats 1000000 in
theorem l21Do_ct (w : Wrld) (e : Evt) (hw : FineX w) : CtO Tryz.prog 51 [.v (sW w), .v e] (so w) (.v (sW (doF w e))) (so (doF w e)) := by
  refine Ct.intro Tryz.func51 rfl rfl ?_
  all_goals refine awp_seq (awp_region (id := 0) ?_)
  all_goals refine awpOps_cons (op_boxm (o := 5) ty29_WrldS rfl rfl rfl rfl) ?_
  all_goals refine awpOps_cons (op_box (o := 6) ty50 rfl (Conv.of rfl) rfl rfl) ?_
  all_goals refine awpOps_cons (op_alloc (o := 7) z29_WrldS rfl rfl) ?_
  all_goals refine awpOps_nil ?_
  all_goals refine awp_seq (awp_seq (awp_region (id := 1) ?_))
  all_goals refine awpOps_cons (op_fab f50_0 rfl rfl) ?_
  all_goals refine awpOps_cons (op_ld ty3 rfl rfl rfl) ?_
  all_goals refine awpOps_nil ?_
  refine awp_block ?_
  all_goals refine awp_seq (awp_region (id := 2) ?_)
  all_goals refine awpOps_cons (op_eql rfl rfl rfl) ?_
  all_goals refine awpOps_cons (op_as rfl (Conv.of rfl) rfl) ?_
  all_goals refine awpOps_nil ?_
  refine awp_cond rfl (fun h1 => ?_) (fun h1 => ?_)
  · have k1 : e.kind = 1 := by simpa using h1
    all_goals refine awp_seq (awp_region (id := 3) ?_)
    all_goals refine awpOps_cons (op_ldm ty29_WrldS rfl rfl rfl) ?_
    all_goals refine awpOps_cons (op_callM (s := 9) (pre := []) fb81 (.nil _) rfl (.nil _) (l21Tick_ct w hw.fine) (olsk rfl ols0) (oksk (by exact obOkNs) oks0) (oksk (by exact obOkNs) oks0) rfl argO0 argO0 (inOne rfl) (inOne rfl) rfl) ?_
    all_goals refine awpOps_cons (op_stm ty29_WrldS rfl rfl rfl) ?_
    all_goals refine awpOps_nil ?_
    refine awp_ret ?_
    repeat first | refine rt_seq ?_ | refine rt_block ?_
    refine ⟨_, _, res1C (ol := so (tickF w)) ty29_WrldS rfl rfl (inOne rfl) (olk rfl obOkNs oln) (hS_sub rfl), ?_, ?_⟩ <;> rw [doF, if_pos k1]
  · have k1 : ¬ e.kind = 1 := by simpa using h1
    all_goals refine awp_seq (awp_region (id := 4) ?_)
    all_goals refine awpOps_cons (op_eql rfl rfl rfl) ?_
    all_goals refine awpOps_cons (op_as rfl (Conv.of rfl) rfl) ?_
    all_goals refine awpOps_nil ?_
    refine awp_cond rfl (fun h2 => ?_) (fun h2 => ?_)
    · have k2 : e.kind = 2 := by simpa using h2
      all_goals refine awp_seq (awp_region (id := 5) ?_)
      all_goals refine awpOps_cons (op_ldm ty29_WrldS rfl rfl rfl) ?_
      all_goals refine awpOps_cons (op_fab f50_1 rfl rfl) ?_
      all_goals refine awpOps_cons (op_ld ty3 rfl rfl rfl) ?_
      all_goals refine awpOps_cons (op_fab f50_3 rfl rfl) ?_
      all_goals refine awpOps_cons (op_ld ty46 rfl rfl rfl) ?_
      all_goals refine awpOps_cons (op_callM (s := 13) (pre := []) fb82 (.nil _) rfl (.cons rfl (Conv.of rfl) (.cons rfl (Conv.of rfl) (.nil _))) (l21Propose_ct w _ _ hw) (olsk rfl ols0) (oksk (by exact obOkNs) oks0) (oksk (by exact obOkNs) oks0) rfl argO0 (argOk' rfl rfl (argOk' rfl rfl argO0)) (inOne rfl) (inOne rfl) rfl) ?_
      all_goals refine awpOps_cons (op_stm ty29_WrldS rfl rfl rfl) ?_
      all_goals refine awpOps_nil ?_
      refine awp_ret ?_
      repeat first | refine rt_seq ?_ | refine rt_block ?_
      refine ⟨_, _, res1C (ol := so (wproposeF w e.a e.pay)) ty29_WrldS rfl rfl (inOne rfl) (olk rfl obOkNs oln) (hS_sub rfl), ?_, ?_⟩ <;> rw [doF, if_neg k1, if_pos k2]
    · have k2 : ¬ e.kind = 2 := by simpa using h2
      all_goals refine awp_seq (awp_region (id := 6) ?_)
      all_goals refine awpOps_cons (op_eql rfl rfl rfl) ?_
      all_goals refine awpOps_cons (op_as rfl (Conv.of rfl) rfl) ?_
      all_goals refine awpOps_nil ?_
      refine awp_cond rfl (fun h3 => ?_) (fun h3 => ?_)
      · have k3 : e.kind = 3 := by simpa using h3
        all_goals refine awp_seq (awp_region (id := 7) ?_)
        all_goals refine awpOps_cons (op_ldm ty29_WrldS rfl rfl rfl) ?_
        all_goals refine awpOps_cons (op_fab f50_1 rfl rfl) ?_
        all_goals refine awpOps_cons (op_ld ty3 rfl rfl rfl) ?_
        all_goals refine awpOps_cons (op_fab f50_2 rfl rfl) ?_
        all_goals refine awpOps_cons (op_ld ty3 rfl rfl rfl) ?_
        all_goals refine awpOps_cons (op_callM (s := 21) (pre := []) fb106 (.nil _) rfl (.cons rfl (Conv.of rfl) (.cons rfl (Conv.of rfl) (.nil _))) (l21Bring_ct w _ _ hw) (olsk rfl ols0) (oksk (by exact obOkNs) oks0) (oksk (by exact obOkNs) oks0) rfl argO0 (argOk' rfl rfl (argOk' rfl rfl argO0)) (inOne rfl) (inOne rfl) rfl) ?_
        all_goals refine awpOps_cons (op_stm ty29_WrldS rfl rfl rfl) ?_
        all_goals refine awpOps_nil ?_
        refine awp_ret ?_
        repeat first | refine rt_seq ?_ | refine rt_block ?_
        refine ⟨_, _, res1C (ol := so (wbringF w e.a e.b)) ty29_WrldS rfl rfl (inOne rfl) (olk rfl obOkNs oln) (hS_sub rfl), ?_, ?_⟩ <;> rw [doF, if_neg k1, if_neg k2, if_pos k3]
      · have k3 : ¬ e.kind = 3 := by simpa using h3
        all_goals refine awp_seq (awp_region (id := 8) ?_)
        all_goals refine awpOps_cons (op_eql rfl rfl rfl) ?_
        all_goals refine awpOps_cons (op_as rfl (Conv.of rfl) rfl) ?_
        all_goals refine awpOps_nil ?_
        refine awp_cond rfl (fun h4 => ?_) (fun h4 => ?_)
        · have k4 : e.kind = 4 := by simpa using h4
          refine awp_seq_to (s' := mkSt 45 [(2, .box 5 (IsLens.whole WrldS)), (3, .box 6 (IsLens.whole Evt)), (4, .box 7 (IsLens.whole WrldS)), (39, .v (voteOk e.vote && decide (e.vote.by_ = w.bad)))] [(1, .arr (w.nodes.map sN)), (5, .cell (sW w)), (6, .cell e), (7, .cell WrldS.zero)]) ?_ ?_
          · all_goals refine awp_region (id := 9) ?_
            all_goals refine awpOps_cons (op_fab f50_4 rfl rfl) ?_
            all_goals refine awpOps_cons (op_ld ty48 rfl rfl rfl) ?_
            all_goals refine awpOps_cons (op_call fb107 (.cons rfl (Conv.of rfl) (.nil _)) (l3Vote_ct _) (argOk rfl rfl argOk0) rfl rfl) ?_
            all_goals refine awpOps_cons (op_mv rfl (Conv.of rfl) rfl) ?_
            all_goals refine g_split (t := 32) rfl (fun h => ?_) (fun h => ?_)
            all_goals first | refine awpOps_cons (g_off rfl rfl rfl rfl rfl) ?_ | refine awpOps_cons (g_on rfl rfl rfl (op_fab f50_4 rfl rfl)) ?_
            all_goals first | refine awpOps_cons (g_off rfl rfl rfl rfl rfl) ?_ | refine awpOps_cons (g_on rfl rfl rfl (op_fab f48_0 rfl rfl)) ?_
            all_goals first | refine awpOps_cons (g_off rfl rfl rfl rfl rfl) ?_ | refine awpOps_cons (g_on rfl rfl rfl (op_ld ty3 rfl rfl rfl)) ?_
            all_goals first | refine awpOps_cons (g_off rfl rfl rfl rfl rfl) ?_ | refine awpOps_cons (g_on rfl rfl rfl (op_fab f29_3_WrldS rfl rfl)) ?_
            all_goals first | refine awpOps_cons (g_off rfl rfl rfl rfl rfl) ?_ | refine awpOps_cons (g_on rfl rfl rfl (op_ld ty3 rfl rfl rfl)) ?_
            all_goals first | refine awpOps_cons (g_off rfl rfl rfl rfl rfl) ?_ | refine awpOps_cons (g_on rfl rfl rfl (op_eql rfl rfl rfl)) ?_
            all_goals refine awpOps_cons (op_pick rfl rfl rfl rfl) ?_
            all_goals refine awpOps_nil ?_
            all_goals exact Le.mk rfl (tlb rfl rfl rfl (tlb rfl rfl rfl (tlb rfl rfl rfl (tle rfl (by (clear h1 h2 h3 h4; simp_all [sW]; try (rw [Bool.eq_iff_iff]; simp))) rfl tln)))) (olk rfl (by exact obOkNs) (olk rfl (by exact obOkS rfl) (olk rfl (by exact obOk_cell) (olk rfl (by exact obOkS0) oln)))) (hS_sub (a := so w) rfl)
          refine awp_cond rfl (fun h5 => ?_) (fun h5 => ?_)
          · have hvo : voteOk e.vote = true := by simp only [Bool.and_eq_true] at h5; exact h5.1
            all_goals refine awp_seq (awp_region (id := 10) ?_)
            all_goals refine awpOps_cons (op_ldm ty29_WrldS rfl rfl rfl) ?_
            all_goals refine awpOps_cons (op_fab f50_4 rfl rfl) ?_
            all_goals refine awpOps_cons (op_ld ty48 rfl rfl rfl) ?_
            all_goals refine awpOps_cons (op_callM (s := 40) (pre := []) fb108 (.nil _) rfl (.cons rfl (Conv.of rfl) (.cons rfl (Conv.of rfl) (.nil _))) (l21Send_ct w _ true _ hw.fine.log (voteOk_len hvo)) (olsk rfl ols0) (oksk (by exact obOkNs) oks0) (oksk (by exact obOkNs) oks0) rfl argO0 (argOk' rfl rfl (argOk' rfl rfl argO0)) (inOne rfl) (inOne rfl) rfl) ?_
            all_goals refine awpOps_cons (op_stm ty29_WrldS rfl rfl rfl) ?_
            all_goals refine awpOps_nil ?_
            refine awp_ret ?_
            repeat first | refine rt_seq ?_ | refine rt_block ?_
            refine ⟨_, _, res1C (ol := so (sendF w e.vote)) ty29_WrldS rfl rfl (inOne rfl) (olk (congrArg (fun z : List Nod => Wt.Obj.arr (List.map sN z)) (send_nodes w e.vote).symm) obOkNs oln) (hS_sub rfl), ?_, ?_⟩ <;> rw [doF, if_neg k1, if_neg k2, if_neg k3, if_pos k4, h5, if_pos rfl]
          · refine awp_skip ?_
            repeat first | refine nx_seq ?_ | refine nx_block ?_
            all_goals refine awp_seq (awp_region (id := 11) ?_)
            all_goals refine awpOps_cons (op_ldm ty29_WrldS rfl rfl rfl) ?_
            all_goals refine awpOps_cons (op_stm ty29_WrldS rfl rfl rfl) ?_
            all_goals refine awpOps_nil ?_
            refine awp_ret ?_
            repeat first | refine rt_seq ?_ | refine rt_block ?_
            refine ⟨_, _, res1C (ol := so w) ty29_WrldS rfl rfl (inOne rfl) (olk rfl obOkNs oln) (hS_sub rfl), ?_, ?_⟩ <;> rw [doF, if_neg k1, if_neg k2, if_neg k3, if_pos k4, h5, if_neg (by decide)]
        · have k4 : ¬ e.kind = 4 := by simpa using h4
          refine awp_skip ?_
          repeat first | refine nx_seq ?_ | refine nx_block ?_
          all_goals refine awp_seq (awp_region (id := 11) ?_)
          all_goals refine awpOps_cons (op_ldm ty29_WrldS rfl rfl rfl) ?_
          all_goals refine awpOps_cons (op_stm ty29_WrldS rfl rfl rfl) ?_
          all_goals refine awpOps_nil ?_
          refine awp_ret ?_
          repeat first | refine rt_seq ?_ | refine rt_block ?_
          refine ⟨_, _, res1C (ol := so w) ty29_WrldS rfl rfl (inOne rfl) (olk rfl obOkNs oln) (hS_sub rfl), ?_, ?_⟩ <;> rw [doF, if_neg k1, if_neg k2, if_neg k3, if_neg k4]
theorem sWorldNew_w (bad : Int) (hb : within bad 0 4 = true) : Ct Tryz.prog 50 [.v bad] noObj (fun r1 h1 => r1 = .tup [.v (sW (newW bad)), .v true] ∧ h1 = obs (so (newW bad))) :=
  Ct.obs (sWorldNew_ct bad hb) fun G w ho o => by
    have h1 := ho 1
    have h1' : RelO G w 1 (.arr ([newC 1, newC 2, newC 3, newC 4] : List NodC)) := h1
    by_cases e : o = 1
    · subst e; exact arr_s h1'
    · have := ho o
      simpa [obs, lk0, e, orr] using this
theorem sPlayS_ct (bad : Int) (evs : List Evt) (hb : within bad 0 4 = true) (hl : evs.length ≤ 70) : Ct Tryz.prog 16 [.v bad, .v evs] noObj (fun r1 h1 => r1 = .tup [.v (sW (playF bad evs)), .v true] ∧ h1 = obs (so (playF bad evs))) := by
  refine Ct.intro Tryz.func16 rfl rfl ?_
  all_goals refine awp_seq (awp_region (id := 0) ?_)
  all_goals refine awpOps_cons (op_alloc (o := 5) z29_WrldS rfl rfl) ?_
  all_goals refine awpOps_cons (op_as rfl (Conv.of rfl) rfl) ?_
  all_goals refine awpOps_nil ?_
  all_goals refine awp_seq (awp_region (id := 1) ?_)
  all_goals refine awpOps_cons (op_mv rfl (Conv.of rfl) rfl) ?_
  refine awpOps_callO [] rfl fb50 (.cons rfl (Conv.of rfl) (.nil _)) (sWorldNew_w bad hb) ols0 oks0 (argOk' rfl rfl argO0) rfl ?_
  rintro r h' ⟨rfl, rfl⟩
  refine ⟨so (newW bad), rfl, (fun o ho => by cases ho), fun o ho _ => ?_, oksk obOkNs oks0, fun o ho => ?_, ?_⟩
  · have : o = 1 := by simpa [keys, lk0] using ho
    subst this; rfl
  · have : o = 1 := by simpa using (show o ∈ [1] from ho)
    subst this; rfl
  all_goals refine awpOps_cons (op_mvo rfl rfl rfl rfl) ?_
  all_goals refine awpOps_cons (op_extm rfl rfl rfl rfl) ?_
  all_goals refine awpOps_cons (op_ext rfl rfl rfl) ?_
  all_goals refine awpOps_cons (op_alloc (o := 0) z29_WrldS rfl rfl) ?_
  all_goals refine awpOps_cons (op_stm ty29_WrldS rfl rfl rfl) ?_
  all_goals refine awpOps_cons (op_as rfl (Conv.of rfl) rfl) ?_
  all_goals refine awpOps_nil ?_
  all_goals refine awp_seq (awp_seq (awp_region (id := 2) ?_))
  all_goals refine awpOps_cons (op_mv rfl (Conv.of rfl) rfl) ?_
  all_goals refine awpOps_cons (op_not rfl rfl) ?_
  all_goals refine awpOps_cons (op_mv rfl (Conv.of rfl) rfl) ?_
  all_goals refine g_lit (t := 16) (b := false) rfl ?_
  all_goals refine awpOps_cons (g_on rfl rfl rfl (op_mv rfl (Conv.of rfl) rfl)) ?_
  all_goals refine awpOps_cons (g_on rfl rfl rfl (op_len sl23 rfl rfl)) ?_
  all_goals refine awpOps_cons (g_on rfl rfl rfl (op_gtr rfl rfl rfl)) ?_
  all_goals refine awpOps_cons (op_pick rfl rfl rfl rfl) ?_
  all_goals refine awpOps_nil ?_
  refine awp_cond rfl (fun h => ?_) (fun h => ?_)
  · exfalso
    simp at h
    omega
  · refine awp_skip ?_
    all_goals refine awp_seq (awp_seq (awp_region (id := 4) ?_))
    all_goals refine awpOps_cons (op_as rfl (Conv.of rfl) rfl) ?_
    all_goals refine awpOps_nil ?_
    refine awp_block ?_
    refine awp_loop' (fun n s => ∃ (k : Nat), ∃ (hn : n + k = evs.length), s = mkSt 35 [(1, .v evs), (4, .box 5 (IsLens.whole WrldS)), (6, .box 0 (IsLens.whole WrldS)), (8, .v (k : Int))] [(0, .cell (sW ((evs.take k).foldl doF (newW bad)))), (1, .arr (((evs.take k).foldl doF (newW bad)).nodes.map sN)), (5, .cell WrldS.zero)]) (evs.length) ⟨0, by omega, rfl⟩ (Le.mk rfl (tle rfl (rfl) rfl (tlb rfl rfl rfl (tlb rfl rfl rfl (tle rfl (rfl) rfl tln)))) (olk (by rfl) (by exact obOkS rfl) (olk (by rfl) (by exact obOkNs) (olk rfl (by exact obOkS0) oln))) noS) ?_
    rintro n s ⟨k, hn, rfl⟩
    have hfine : FineX ((evs.take k).foldl doF (newW bad)) := foldl_ok _ (newW_ok bad)
    all_goals refine awp_seq (awp_seq (awp_region (id := 5) ?_))
    all_goals refine awpOps_cons (op_mv rfl (Conv.of rfl) rfl) ?_
    all_goals refine awpOps_cons (op_mv rfl (Conv.of rfl) rfl) ?_
    all_goals refine awpOps_cons (op_len sl23 rfl rfl) ?_
    all_goals refine awpOps_cons (op_lss rfl rfl rfl) ?_
    all_goals refine awpOps_nil ?_
    refine awp_cond rfl (fun h => ?_) (fun h => ?_)
    · have hlt : k < evs.length := by simpa using h
      have hx : evs[k]? = some evs[k] := List.getElem?_eq_getElem hlt
      refine awp_skip ?_
      refine awp_seq (awp_block ?_)
      all_goals refine dr_start (id := 7) ?_
      all_goals refine dr_cons (op_ldm ty29_WrldS rfl rfl rfl) ?_
      all_goals refine dr_cons (op_mv rfl (Conv.of rfl) rfl) ?_
      all_goals refine dr_cons (op_mv rfl (Conv.of rfl) rfl) ?_
      all_goals refine dr_cons (op_ix sl23 rfl rfl rfl (by omega) hx) ?_
      all_goals refine dr_cons (op_ldr ty50 rfl rfl) ?_
      all_goals refine dr_cons (op_callM (s := 28) (pre := []) fb51 (.nil _) rfl (.cons rfl (Conv.of rfl) (.nil _)) (l21Do_ct _ evs[k] hfine) (olsk rfl ols0) (oksk (by exact obOkNs) oks0) (oksk (by exact obOkNs) oks0) rfl argO0 (argOk' rfl rfl argO0) (inOne rfl) (inOne rfl) rfl) ?_
      all_goals refine dr_cons (op_stm ty29_WrldS rfl rfl rfl) ?_
      all_goals refine dr_nil mixed rfl ?_
      all_goals refine awp_region (id := 6) ?_
      all_goals refine awpOps_cons (op_mv rfl (Conv.of rfl) rfl) ?_
      all_goals refine awpOps_cons (op_add rfl rfl rfl (by omega)) ?_
      all_goals refine awpOps_cons (op_as rfl (Conv.of rfl) rfl) ?_
      all_goals refine awpOps_nil ?_
      repeat first | refine nx_seq ?_ | refine nx_block ?_
      exact ⟨n - 1, _, by omega, ⟨k + 1, by omega, rfl⟩, Le.mk rfl (tle rfl (rfl) rfl (tlb rfl rfl rfl (tlb rfl rfl rfl (tle rfl (rfl) rfl tln)))) (olk (by (rw [foldl_at doF _ hx]; rfl)) (by exact obOkS rfl) (olk (by (rw [foldl_at doF _ hx]; rfl)) (by exact obOkNs) (olk rfl (by exact obOkS0) oln))) noS⟩
    · refine awp_exit ?_
      repeat refine ex_seq ?_
      refine ex_block ?_
      have hk : evs.length ≤ k := by simpa using h
      have hp : (evs.take k).foldl doF (newW bad) = playF bad evs := by rw [take_end hk]; rfl
      rw [hp] at hfine ⊢
      all_goals refine awp_seq (awp_region (id := 8) ?_)
      all_goals refine awpOps_cons (op_ldm ty29_WrldS rfl rfl rfl) ?_
      all_goals refine awpOps_cons (op_stm ty29_WrldS rfl rfl rfl) ?_
      all_goals refine awpOps_cons (op_as rfl (Conv.of rfl) rfl) ?_
      all_goals refine awpOps_nil ?_
      refine awp_ret ?_
      repeat first | refine rt_seq ?_ | refine rt_block ?_
      exact ⟨_, _, resNM (ol := so (playF bad evs)) (.cell ty29_WrldS rfl rfl (.keep (.v rfl (Conv.of rfl)) (.nil _))) rfl (inOne rfl) (olk rfl obOkNs oln) noS, rfl, rfl⟩
/-- The reference's play: its result as a plain world. -/
theorem sPlay_ct (bad : Int) (evs : List Evt) (hb : within bad 0 4 = true) (hl : evs.length ≤ 70) : CtP Tryz.prog 16 [.v bad, .v evs] (.tup [.v (playF bad evs), .v true]) :=
  Ct.frz (sPlayS_ct bad evs hb hl) (frzS_ok (by have := (foldl_ok evs (newW_ok bad)).four; show (playF bad evs).nodes.length ≤ big; unfold playF; rw [this]; decide))
end Go.Proofs.YtompnmkpgffhkaaGreat

/- What is drawn. -/
set_option linter.unusedVariables false
set_option linter.unusedSimpArgs false
namespace Go.Wt
open Go
def mixV (b : List UInt8) (k : Int) : Int :=
  ((b.getD (k.tmod b.length).toNat 0).toNat : Int) * 131 + ((b.getD ((k * 7 + 3).tmod b.length).toNat 0).toNat : Int) * 1117 + k * 29 + IntKind.i64.wrap (k.tdiv b.length) * 53
/-- A number below `n`. -/
def pickV (b : List UInt8) (k n : Int) : Int :=
  if (decide (n < 1) || decide ((b.length : Int) = 0)) = true then 0
  else if decide (k < (b.length : Int)) = true then ((b.getD k.toNat 0).toNat : Int).tmod n
  else (xor64 (mixV b k) (IntKind.i64.wrap ((mixV b k).tdiv 64))).tmod n
theorem tdiv_bd {m n : Int} (h : 0 ≤ m) (hn : 0 < n) : 0 ≤ m.tdiv n ∧ m.tdiv n ≤ m := by
  rw [Int.tdiv_eq_ediv_of_nonneg h]
  exact ⟨Int.ediv_nonneg h (by omega), Int.ediv_le_self _ h⟩
theorem getD_get {b : List UInt8} {i : Int} (h0 : 0 ≤ i) (h : i < b.length) : b[i.toNat]? = some (b.getD i.toNat 0) := by
  rw [List.getElem?_eq_getElem (show i.toNat < b.length by omega), List.getD_eq_getElem?_getD, List.getElem?_eq_getElem (show i.toNat < b.length by omega)]; rfl
theorem tmod_bd {m n : Int} (h : 0 ≤ m) (hn : 0 < n) : 0 ≤ m.tmod n ∧ m.tmod n < n := ⟨Int.tmod_nonneg n h, Int.tmod_lt_of_pos m hn⟩
theorem u8_bd (x : UInt8) : (0 : Int) ≤ (x.toNat : Int) ∧ (x.toNat : Int) ≤ 255 := ⟨by omega, by have := x.toNat_lt; omega⟩
theorem mixV_bd {b : List UInt8} {k : Int} (h : 0 ≤ k ∧ k ≤ 1000000) (hb : 0 < b.length) : 0 ≤ mixV b k ∧ mixV b k ≤ 100000000 := by
  have h1 := u8_bd (b.getD (k.tmod b.length).toNat 0)
  have h2 := u8_bd (b.getD ((k * 7 + 3).tmod b.length).toNat 0)
  have h3 := tdiv_bd h.1 (show (0 : Int) < b.length by omega)
  have h4 : IntKind.i64.wrap (k.tdiv b.length) = k.tdiv b.length := wrap_in (by omega)
  unfold mixV
  rw [h4]
  omega
theorem xor64_bd {m n : Int} (h1 : 0 ≤ m ∧ m ≤ 1000000000) (h2 : 0 ≤ n ∧ n ≤ 1000000000) : 0 ≤ xor64 m n := by
  unfold xor64
  obtain ⟨a, rfl⟩ := Int.eq_ofNat_of_zero_le h1.1
  obtain ⟨c, rfl⟩ := Int.eq_ofNat_of_zero_le h2.1
  have e : (BitVec.ofInt 64 (a : Int) ^^^ BitVec.ofInt 64 (c : Int)).toNat = a ^^^ c := by
    have ha : a < 2 ^ 64 := by omega
    have hc : c < 2 ^ 64 := by omega
    rw [BitVec.toNat_xor]
    simp only [BitVec.ofInt_natCast, BitVec.toNat_ofNat, Nat.mod_eq_of_lt ha, Nat.mod_eq_of_lt hc]
  have hx : a ^^^ c < 2 ^ 62 := Nat.xor_lt_two_pow (by omega) (by omega)
  rw [e, wrap_in (by omega)]
  omega
theorem pickV_bd {b : List UInt8} {k n : Int} (h : 0 ≤ k ∧ k ≤ 1000000) : 0 ≤ pickV b k n ∧ (1 ≤ n → pickV b k n < n) := by
  unfold pickV
  split
  · exact ⟨by omega, fun h => by omega⟩
  · rename_i hh
    simp only [Bool.or_eq_true, decide_eq_true_eq, not_or] at hh
    have hb : 0 < b.length := by omega
    split
    · have := tmod_bd (u8_bd (b.getD k.toNat 0)).1 (show 0 < n by omega)
      exact ⟨this.1, fun _ => this.2⟩
    · have hm := mixV_bd h hb
      have h3 := tdiv_bd hm.1 (show (0 : Int) < 64 by omega)
      have h4 : IntKind.i64.wrap ((mixV b k).tdiv 64) = (mixV b k).tdiv 64 := wrap_in (by omega)
      rw [h4]
      have := tmod_bd (xor64_bd (m := mixV b k) (n := (mixV b k).tdiv 64) (by omega) (by omega)) (show 0 < n by omega)
      exact ⟨this.1, fun _ => this.2⟩
def nx (r : Rd) (c : Int) : Rd := ⟨r.b, r.p + c⟩
theorem nx_nx (r : Rd) (c d : Int) : nx (nx r c) d = nx r (c + d) := by simp [nx, Int.add_assoc]
def pk (r : Rd) (n : Int) : Int := pickV r.b r.p n
/-- The reader has not gone too far. -/
def Far (m : Int) (r : Rd) : Prop := 0 ≤ r.p ∧ r.p ≤ m
theorem Far.nx {m c m' : Int} {r : Rd} (h : Far m r) (hc : 0 ≤ c) (hm : m + c ≤ m') : Far m' (nx r c) := by
  unfold Far Go.Wt.nx at *; simp only; omega
theorem Far.weak {m m' : Int} {r : Rd} (h : Far m r) (hm : m ≤ m') : Far m' r := by unfold Far at *; omega
theorem pk_bd {m : Int} {r : Rd} (h : Far m r) (hm : m ≤ 1000000) (n : Int) : 0 ≤ pk r n ∧ (1 ≤ n → pk r n < n) := pickV_bd (by unfold Far at h; omega)
def payV (r : Rd) : Pay := ⟨1 + pk r 3, (1 + pk r 3 + pk (nx r 1) 2).tmod 3 + 1, 1 + pk (nx r 2) 9⟩
def chStep (s : Int × List Itm × Rd) : Int × List Itm × Rd :=
  (s.1 + 1 + IntKind.i64.wrap ((pk s.2.2 6).tdiv 5) * pk (nx s.2.2 1) 3, s.2.1 ++ [⟨s.1 + 1 + IntKind.i64.wrap ((pk s.2.2 6).tdiv 5) * pk (nx s.2.2 1) 3, payV (nx s.2.2 2)⟩], nx s.2.2 5)
def chIter (r : Rd) : Nat → Int × List Itm × Rd
  | 0 => (0, [], nx r 1)
  | n + 1 => chStep (chIter r n)
def chainV (r : Rd) : List Itm := (chIter r (pk r 7).toNat).2.1
def chainR (r : Rd) : Rd := (chIter r (pk r 7).toNat).2.2
theorem chIter_r (r : Rd) : ∀ n : Nat, (chIter r n).2.2 = nx r (1 + 5 * n)
  | 0 => rfl
  | n + 1 => by
    simp only [chIter, chStep, chIter_r r n, nx_nx]
    first | (congr 1; omega) | congr 1
theorem chIter_len (r : Rd) : ∀ n : Nat, (chIter r n).2.1.length = n
  | 0 => rfl
  | n + 1 => by simp [chIter, chStep, chIter_len r n]
theorem chIter_at {m : Int} {r : Rd} (h : Far m r) (hm : m + 1000 ≤ 1000000) : ∀ n : Nat, n ≤ 100 → 0 ≤ (chIter r n).1 ∧ (chIter r n).1 ≤ 4 * n
  | 0, _ => by simp [chIter]
  | n + 1, hn => by
    have ih := chIter_at h hm n (by omega)
    have hf : Far (m + 1 + 5 * n) (nx r (1 + 5 * (n : Int))) := h.nx (by omega) (by omega)
    have h1 := pk_bd hf (by omega) 6
    have h2 := pk_bd (hf.nx (c := 1) (m' := m + 2 + 5 * n) (by omega) (by omega)) (by omega) 3
    have h3 : (pk (nx r (1 + 5 * (n : Int))) 6).tdiv 5 = 0 ∨ (pk (nx r (1 + 5 * (n : Int))) 6).tdiv 5 = 1 := by
      rw [Int.tdiv_eq_ediv_of_nonneg h1.1]
      have := h1.2 (by omega)
      omega
    simp only [chIter, chStep, chIter_r]
    rcases h3 with h3 | h3
    · rw [h3, wrap_in (by omega)]; omega
    · rw [h3, wrap_in (by omega)]
      have := h2.2 (by omega)
      omega
theorem chainV_len {m : Int} {r : Rd} (h : Far m r) (hm : m ≤ 1000000) : (chainV r).length ≤ 6 := by
  unfold chainV
  rw [chIter_len]
  have := pk_bd h hm 7
  have := this.2 (by omega)
  omega
theorem chainR_eq {r : Rd} : chainR r = nx r (1 + 5 * ((pk r 7).toNat : Int)) := chIter_r r _
theorem chainR_far {m : Int} {r : Rd} (h : Far m r) (hm : m ≤ 1000000) : Far (m + 31) (chainR r) := by
  rw [chainR_eq]
  have := pk_bd h hm 7
  have := this.2 (by omega)
  exact h.nx (by omega) (by omega)
/-- What comes first ends in one of many states. -/
theorem awp_seq_ex {P : Program} {S : Nat → Prop} {st : St} {ι : Type} {x y : Code} {Q : Exit → St → Prop} (s' : ι → St) (Φ : ι → Prop) (h1 : awp P S x (athen (fun s => ∃ i, Φ i ∧ Le S s (s' i)) Q) st) (h2 : ∀ i, Φ i → awp P S y Q (s' i)) : awp P S (.seq x y) Q st :=
  awp_seq (awp_mono h1 fun e s q => by
    cases e with
    | normal => obtain ⟨i, q1, q2⟩ := q; exact awp_le q2 (h2 i q1)
    | exit id => exact q
    | goto l => exact q
    | ret => exact q
    | panic ch => exact q
    | outgrown => exact q)
theorem awp_to_ex {P : Program} {S : Nat → Prop} {st : St} {ι : Type} {x y : Code} {Q Q' : Exit → St → Prop} (s' : ι → St) (Φ : ι → Prop) (h1 : awp P S x (athen (fun s => ∃ i, Φ i ∧ Le S s (s' i)) Q) st) (h2 : ∀ i, Φ i → awp P S y Q' (s' i)) : awp P S x (athen (awp P S y Q') Q) st :=
  awp_mono h1 fun e s q => by
    cases e with
    | normal => obtain ⟨i, q1, q2⟩ := q; exact awp_le q2 (h2 i q1)
    | exit id => exact q
    | goto l => exact q
    | ret => exact q
    | panic ch => exact q
    | outgrown => exact q
/-- A call whose result isn't known in full. -/
theorem awpOps_callE {P : Program} {S : Nat → Prop} {ops : Array Oper} {st : St} {d : Nat} {T pos aft} {x : Operand} {f : FuncId} {xs : List Operand} {av : List AV} {ts : Array TypeId} {rt : List Nat} {l : List Oper} {Q : St → Prop} {ι : Type} (ol : List (Nat × Obj)) (fr : ι → AV) (g : ι → List (Nat × Obj)) (Φ : ι → Prop) {R : AV → (Nat → Obj) → Prop}
    (hfun : st.ev x = some (.fn f [] [])) (hB : fnB P f = true) (ha : Args st 0 xs av rt) (hct : Ct P f av (obs ol) R) (hR : ∀ r h', R r h' → ∃ i, r = fr i ∧ h' = obs (g i) ∧ Φ i) (hol : OLs st ol) (hok : OKs (keys ol) ol)
    (hdis : ∀ z ∈ av, z.dis = z ∧ ∀ o ∈ z.refs, keys ol o = true) (hn : Nat.blt d st.n = true) (hke : ∀ i, keysEq ol (g i) = true) (hok' : ∀ i, OKs (keys ol) (g i)) (hrr : ∀ i, ∀ o ∈ (fr i).refs, keys ol o = true)
    (hk : ∀ i, Φ i → awpOps P S ops l Q (st.upd [(d, some (fr i))] (g i))) :
    awpOps P S ops (⟨some d, .call { callee := .value x, args := xs.toArray, argTypes := ts }, T, pos, aft, none⟩ :: l) Q st :=
  awpOps_callO (fa := []) (fc := []) ol hfun hB ha (by simpa [avs] using hct) hol hok (by simpa [avs] using hdis) hn fun r h' hr => by
    obtain ⟨i, rfl, rfl, hi⟩ := hR r h' hr
    have hkk := keysEq_keys (hke i)
    refine ⟨g i, rfl, fun o ho => (by rw [← hkk]; exact ho), fun o ho h1 => (by rw [← hkk] at ho; rw [ho] at h1; cases h1), ?_, fun o ho => (by rw [← hkk]; exact hrr i o ho), hk i hi⟩
    rw [← hkk]; exact hok' i
theorem awp_toB_ex {P : Program} {S : Nat → Prop} {st : St} {id : Nat} {ι : Type} {x y : Code} {Q Q' : Exit → St → Prop} (s' : ι → St) (Φ : ι → Prop) (h1 : awp P S x (ablock id (athen (fun s => ∃ i, Φ i ∧ Le S s (s' i)) Q)) st) (h2 : ∀ i, Φ i → awp P S y Q' (s' i)) : awp P S x (ablock id (athen (awp P S y Q') Q)) st :=
  awp_mono h1 fun e s q => by
    cases e with
    | normal => obtain ⟨i, q1, q2⟩ := q; exact awp_le q2 (h2 i q1)
    | exit j =>
      simp only [ablock] at q ⊢
      split at q
      · rw [if_pos (by assumption)]; obtain ⟨i, q1, q2⟩ := q; exact awp_le q2 (h2 i q1)
      · rw [if_neg (by assumption)]; exact q
    | goto l => exact q
    | ret => exact q
    | panic ch => exact q
    | outgrown => exact q
section bools
variable {P : Program} {S : Nat → Prop} {ops : Array Oper} {st : St} {d : Nat} {T pos aft} {x y : Operand} {t t' : TypeId} {m n : Bool}
theorem bool_bin {op : BinOp} {av : AV} {u : Value} (hx : st.ev x = some (.v m)) (hy : st.ev y = some (.v n)) (hn : Nat.blt d st.n = true)
    (h1 : ∀ w : World, (binOp op t (.bool m) (.bool n)).run P w = .ok u w) (h3 : ∀ G w ω, RelV G w ω av u) :
    OpOk P S ops ⟨some d, .binOp op t x y t', T, pos, aft, none⟩ (opT x ++ opT y) [] [(d, some av)] [] st :=
  bin_value hn fun st1 hag G w a hr => by
    have e1 := RelV.bool (hr.at hag hx fun t ht => by simp [ht])
    have e2 := RelV.bool (hr.at hag hy fun t ht => by simp [ht])
    refine ⟨u, by rw [e1, e2]; exact h1 w, by rw [e1, eqGuard_at_bool]; rfl, h3 _ _ _⟩
theorem binOp_eql_bool (t : TypeId) (m n : Bool) : binOp .eql t (.bool m) (.bool n) = (do pure (.bool (← Op.equal t (.bool m) (.bool n)))) := by unfold binOp; rfl
theorem binOp_neq_bool (t : TypeId) (m n : Bool) : binOp .neq t (.bool m) (.bool n) = (do pure (.bool !(← Op.equal t (.bool m) (.bool n)))) := by unfold binOp; rfl
theorem op_beql (hu : P.underlying t = some .bool) (hx : st.ev x = some (.v m)) (hy : st.ev y = some (.v n)) (hn : Nat.blt d st.n = true) :
    OpOk P S ops ⟨some d, .binOp .eql t x y t', T, pos, aft, none⟩ (opT x ++ opT y) [] [(d, some (.v (m == n)))] [] st :=
  bool_bin hx hy hn (u := .bool (m == n)) (fun w => by rw [binOp_eql_bool]; simp only [Sem.run_bind, run_equal_bool w t m n hu, Result.andThen_ok, Sem.run_pure]) fun G w ω => relBool G w ω _
theorem op_bneq (hu : P.underlying t = some .bool) (hx : st.ev x = some (.v m)) (hy : st.ev y = some (.v n)) (hn : Nat.blt d st.n = true) :
    OpOk P S ops ⟨some d, .binOp .neq t x y t', T, pos, aft, none⟩ (opT x ++ opT y) [] [(d, some (.v (!(m == n))))] [] st :=
  bool_bin hx hy hn (u := .bool !(m == n)) (fun w => by rw [binOp_neq_bool]; simp only [Sem.run_bind, run_equal_bool w t m n hu, Result.andThen_ok, Sem.run_pure]) fun G w ω => relBool G w ω _
end bools
end Go.Wt

/- The reference: draws. -/
set_option linter.unusedVariables false
set_option linter.unusedSimpArgs false
namespace Go.Proofs.YtompnmkpgffhkaaGreat
open Go Go.Wt
theorem l6Open_ct (code : List UInt8) : Ct Tryz.prog 45 [.v code] noObj (fun r1 h1 => r1 = .box 0 (IsLens.whole Rd) ∧ h1 = obs [(0, .cell (Rd.mk (code.take 2000) 0))]) := by
  refine Ct.intro Tryz.func45 rfl rfl ?_
  all_goals refine awp_seq (awp_region (id := 0) ?_)
  all_goals refine awpOps_cons (op_as rfl (Conv.of rfl) rfl) ?_
  all_goals refine awpOps_nil ?_
  all_goals refine awp_seq (awp_seq (awp_region (id := 1) ?_))
  all_goals refine awpOps_cons (op_mv rfl (Conv.of rfl) rfl) ?_
  all_goals refine awpOps_cons (op_len sl22 rfl rfl) ?_
  all_goals refine awpOps_cons (op_gtr rfl rfl rfl) ?_
  all_goals refine awpOps_nil ?_
  refine awp_cond rfl (fun h => ?_) (fun h => ?_)
  · all_goals refine awp_region (id := 2) ?_
    all_goals refine awpOps_cons (op_mv rfl (Conv.of rfl) rfl) ?_
    all_goals refine awpOps_cons (op_slh sl22 rfl rfl rfl ⟨by omega, by simp at h; omega⟩) ?_
    all_goals refine awpOps_cons (op_as rfl (Conv.of rfl) rfl) ?_
    all_goals refine awpOps_nil ?_
    all_goals refine awp_seq (awp_region (id := 3) ?_)
    all_goals refine awpOps_cons (op_mv rfl (Conv.of rfl) rfl) ?_
    all_goals refine awpOps_cons (op_build (.cons f113_0 rfl (Conv.of rfl) (.nil _)) z113 rfl pl113 rfl) ?_
    all_goals refine awpOps_cons (op_box (o := 0) ty113 rfl (Conv.of rfl) rfl rfl) ?_
    all_goals refine awpOps_cons (op_as rfl (Conv.of rfl) rfl) ?_
    all_goals refine awpOps_nil ?_
    refine awp_ret ?_
    repeat first | refine rt_seq ?_ | refine rt_block ?_
    exact ⟨_, _, res1E [(0, .cell (Rd.mk (code.take 2000) 0))] rfl rfl rfl (olk rfl obOk_cell oln) noS, rfl, rfl⟩
  · have e : code.take 2000 = code := take_end (by simp at h; omega)
    refine awp_skip ?_
    all_goals refine awp_seq (awp_region (id := 3) ?_)
    all_goals refine awpOps_cons (op_mv rfl (Conv.of rfl) rfl) ?_
    all_goals refine awpOps_cons (op_build (.cons f113_0 rfl (Conv.of rfl) (.nil _)) z113 rfl pl113 rfl) ?_
    all_goals refine awpOps_cons (op_box (o := 0) ty113 rfl (Conv.of rfl) rfl rfl) ?_
    all_goals refine awpOps_cons (op_as rfl (Conv.of rfl) rfl) ?_
    all_goals refine awpOps_nil ?_
    refine awp_ret ?_
    repeat first | refine rt_seq ?_ | refine rt_block ?_
    refine ⟨_, _, res1E [(0, .cell (Rd.mk code 0))] rfl rfl rfl (olk rfl obOk_cell oln) noS, rfl, ?_⟩
    rw [e]
set_option maxHeartbeats 1000000 in
theorem pick_ct (r : Rd) (n : Int) (hp : 0 ≤ r.p ∧ r.p ≤ 1000000) : CtO Tryz.prog 47 [.box 0 (IsLens.whole Rd), .v n] [(0, .cell r)] (.v (pk r n)) [(0, .cell (nx r 1))] := by
  refine Ct.intro Tryz.func47 rfl rfl ?_
  all_goals refine awp_seq (awp_region (id := 0) ?_)
  all_goals refine awpOps_cons (op_as rfl (Conv.of rfl) rfl) ?_
  all_goals refine awpOps_nil ?_
  all_goals refine awp_seq (awp_region (id := 1) ?_)
  all_goals refine awpOps_cons (op_mv rfl (Conv.of rfl) rfl) ?_
  all_goals refine awpOps_cons (op_mv rfl (Conv.of rfl) rfl) ?_
  all_goals refine awpOps_cons (op_nilc_box rfl rfl) ?_
  all_goals refine awpOps_cons (op_fab f113_1 rfl rfl) ?_
  all_goals refine awpOps_cons (op_ld ty3 rfl rfl rfl) ?_
  all_goals refine awpOps_cons (op_add rfl rfl rfl (by omega)) ?_
  all_goals refine awpOps_cons (op_nilc_box rfl rfl) ?_
  all_goals refine awpOps_cons (op_fab f113_1 rfl rfl) ?_
  all_goals refine awpOps_cons (op_st ty3 rfl rfl (Conv.of rfl) rfl) ?_
  all_goals refine awpOps_nil ?_
  refine awp_seq (awp_seq_to (s' := mkSt 99 [(0, .box 0 (IsLens.whole Rd)), (1, .v n), (24, .v (decide (n < 1) || decide ((r.b.length : Int) = 0)))] [(0, .cell (nx r 1))]) ?_ ?_)
  · all_goals refine awp_region (id := 2) ?_
    all_goals refine awpOps_cons (op_mv rfl (Conv.of rfl) rfl) ?_
    all_goals refine awpOps_cons (op_lss rfl rfl rfl) ?_
    all_goals refine awpOps_cons (op_mv rfl (Conv.of rfl) rfl) ?_
    all_goals refine g_split (t := 17) rfl (fun h => ?_) (fun h => ?_)
    all_goals first | refine awpOps_cons (g_off rfl rfl rfl rfl rfl) ?_ | refine awpOps_cons (g_on rfl rfl rfl (op_mv rfl (Conv.of rfl) rfl)) ?_
    all_goals first | refine awpOps_cons (g_off rfl rfl rfl rfl rfl) ?_ | refine awpOps_cons (g_on rfl rfl rfl (op_nilc_box rfl rfl)) ?_
    all_goals first | refine awpOps_cons (g_off rfl rfl rfl rfl rfl) ?_ | refine awpOps_cons (g_on rfl rfl rfl (op_fab f113_0 rfl rfl)) ?_
    all_goals first | refine awpOps_cons (g_off rfl rfl rfl rfl rfl) ?_ | refine awpOps_cons (g_on rfl rfl rfl (op_ld ty22 rfl rfl rfl)) ?_
    all_goals first | refine awpOps_cons (g_off rfl rfl rfl rfl rfl) ?_ | refine awpOps_cons (g_on rfl rfl rfl (op_len sl22 rfl rfl)) ?_
    all_goals first | refine awpOps_cons (g_off rfl rfl rfl rfl rfl) ?_ | refine awpOps_cons (g_on rfl rfl rfl (op_eql rfl rfl rfl)) ?_
    all_goals refine awpOps_cons (op_pick rfl rfl rfl rfl) ?_
    all_goals refine awpOps_nil ?_
    all_goals exact Le.mk rfl (tlb rfl rfl rfl (tle rfl (rfl) rfl (tle rfl (by (simp_all [nx]; try (rw [Bool.eq_iff_iff]; simp); try (intro hh; omega))) rfl tln))) (olk rfl (by exact obOk_cell) oln) (hS_sub (a := [(0, .cell r)]) rfl)
  refine awp_cond rfl (fun h => ?_) (fun h => ?_)
  · all_goals refine awp_seq (awp_region (id := 3) ?_)
    all_goals refine awpOps_cons (op_as rfl (Conv.of rfl) rfl) ?_
    all_goals refine awpOps_nil ?_
    refine awp_ret ?_
    repeat first | refine rt_seq ?_ | refine rt_block ?_
    refine finO1 [(0, .cell (nx r 1))] (.v rfl (Conv.of rfl)) (fun o ho => by cases ho) (olk rfl obOk_cell oln) (hS_keys rfl) ?_
    show AV.v _ = AV.v _
    unfold pk pickV
    rw [if_pos h]
  · have hb : r.b.length ≠ 0 := by
      simp only [Bool.or_eq_false_iff, decide_eq_false_iff_not] at h; omega
    have hn : n ≠ 0 := by
      simp only [Bool.or_eq_false_iff, decide_eq_false_iff_not] at h; omega
    refine awp_skip ?_
    refine awp_seq_to (s' := mkSt 99 [(0, .box 0 (IsLens.whole Rd)), (1, .v n), (5, .v r.p)] [(0, .cell (nx r 1))]) ?_ ?_
    · all_goals refine awp_region (id := 4) ?_
      all_goals refine awpOps_cons (op_mv rfl (Conv.of rfl) rfl) ?_
      all_goals refine awpOps_cons (op_nilc_box rfl rfl) ?_
      all_goals refine awpOps_cons (op_fab f113_1 rfl rfl) ?_
      all_goals refine awpOps_cons (op_ld ty3 rfl rfl rfl) ?_
      all_goals refine awpOps_cons (op_sub rfl rfl rfl (by (simp only [nx]; omega))) ?_
      all_goals refine awpOps_cons (op_as rfl (Conv.of rfl) rfl) ?_
      all_goals refine awpOps_nil ?_
      all_goals exact Le.mk rfl (tlb rfl rfl rfl (tle rfl (rfl) rfl (tle rfl (by (simp only [nx]; congr 1; omega)) rfl tln))) (olk rfl (by exact obOk_cell) oln) (hS_sub (a := [(0, .cell r)]) rfl)
    all_goals refine awp_seq (awp_seq (awp_region (id := 5) ?_))
    all_goals refine awpOps_cons (op_mv rfl (Conv.of rfl) rfl) ?_
    all_goals refine awpOps_cons (op_mv rfl (Conv.of rfl) rfl) ?_
    all_goals refine awpOps_cons (op_nilc_box rfl rfl) ?_
    all_goals refine awpOps_cons (op_fab f113_0 rfl rfl) ?_
    all_goals refine awpOps_cons (op_ld ty22 rfl rfl rfl) ?_
    all_goals refine awpOps_cons (op_len sl22 rfl rfl) ?_
    all_goals refine awpOps_cons (op_lss rfl rfl rfl) ?_
    all_goals refine awpOps_nil ?_
    refine awp_cond rfl (fun h2 => ?_) (fun h2 => ?_)
    · have hlt : r.p < r.b.length := of_decide_eq_true h2
      have hx := getD_get hp.1 hlt
      all_goals refine awp_seq (awp_region (id := 6) ?_)
      all_goals refine awpOps_cons (op_mv rfl (Conv.of rfl) rfl) ?_
      all_goals refine awpOps_cons (op_nilc_box rfl rfl) ?_
      all_goals refine awpOps_cons (op_fab f113_0 rfl rfl) ?_
      all_goals refine awpOps_cons (op_ld ty22 rfl rfl rfl) ?_
      all_goals refine awpOps_cons (op_mv rfl (Conv.of rfl) rfl) ?_
      all_goals refine awpOps_cons (op_ix sl22 rfl rfl rfl (by omega) hx) ?_
      all_goals refine awpOps_cons (op_ldr ty5 rfl rfl) ?_
      all_goals refine awpOps_cons (op_cvb rfl rfl us5 ui3) ?_
      all_goals refine awpOps_cons (op_mv rfl (Conv.of rfl) rfl) ?_
      all_goals refine awpOps_cons (op_rem rfl rfl rfl (by exact hn)) ?_
      all_goals refine awpOps_cons (op_as rfl (Conv.of rfl) rfl) ?_
      all_goals refine awpOps_nil ?_
      refine awp_ret ?_
      repeat first | refine rt_seq ?_ | refine rt_block ?_
      refine finO1 [(0, .cell (nx r 1))] (.v rfl (Conv.of rfl)) (fun o ho => by cases ho) (olk rfl obOk_cell oln) (hS_keys rfl) ?_
      show AV.v _ = AV.v _
      unfold pk pickV
      rw [if_neg (by rw [h]; decide), if_pos (by simpa using hlt)]
    · have hge : ¬ r.p < r.b.length := of_decide_eq_false h2
      have m1 := tmod_bd hp.1 (show (0 : Int) < (nx r 1).b.length by simp [nx]; omega)
      have m2 := tmod_bd (show 0 ≤ r.p * 7 + 3 by omega) (show (0 : Int) < (nx r 1).b.length by simp [nx]; omega)
      have hx1 := getD_get m1.1 m1.2
      have hx2 := getD_get m2.1 m2.2
      have b1 := u8_bd ((nx r 1).b.getD (r.p.tmod (nx r 1).b.length).toNat 0)
      have b2 := u8_bd ((nx r 1).b.getD ((r.p * 7 + 3).tmod (nx r 1).b.length).toNat 0)
      have h3 := tdiv_bd hp.1 (show (0 : Int) < (nx r 1).b.length by simp [nx]; omega)
      have h4 : IntKind.i64.wrap (r.p.tdiv (nx r 1).b.length) = r.p.tdiv (nx r 1).b.length := wrap_in (by omega)
      refine awp_skip ?_
      all_goals refine awp_seq (dr_start (id := 7) ?_)
      all_goals refine dr_cons (op_mv rfl (Conv.of rfl) rfl) ?_
      all_goals refine dr_cons (op_nilc_box rfl rfl) ?_
      all_goals refine dr_cons (op_fab f113_0 rfl rfl) ?_
      all_goals refine dr_cons (op_ld ty22 rfl rfl rfl) ?_
      all_goals refine dr_cons (op_mv rfl (Conv.of rfl) rfl) ?_
      all_goals refine dr_cons (op_mv rfl (Conv.of rfl) rfl) ?_
      all_goals refine dr_cons (op_nilc_box rfl rfl) ?_
      all_goals refine dr_cons (op_fab f113_0 rfl rfl) ?_
      all_goals refine dr_cons (op_ld ty22 rfl rfl rfl) ?_
      all_goals refine dr_cons (op_len sl22 rfl rfl) ?_
      all_goals refine dr_cons (op_rem rfl rfl rfl (by (show (r.b.length : Int) ≠ 0; omega))) ?_
      all_goals refine dr_cons (op_ix sl22 rfl rfl rfl (by omega) hx1) ?_
      all_goals refine dr_cons (op_ldr ty5 rfl rfl) ?_
      all_goals refine dr_cons (op_cvb rfl rfl us5 ui3) ?_
      all_goals refine dr_cons (op_mul rfl rfl rfl (by omega)) ?_
      all_goals refine dr_cons (op_mv rfl (Conv.of rfl) rfl) ?_
      all_goals refine dr_cons (op_nilc_box rfl rfl) ?_
      all_goals refine dr_cons (op_fab f113_0 rfl rfl) ?_
      all_goals refine dr_cons (op_ld ty22 rfl rfl rfl) ?_
      all_goals refine dr_cons (op_mv rfl (Conv.of rfl) rfl) ?_
      all_goals refine dr_cons (op_mul rfl rfl rfl (by omega)) ?_
      all_goals refine dr_cons (op_add rfl rfl rfl (by omega)) ?_
      all_goals refine dr_cons (op_mv rfl (Conv.of rfl) rfl) ?_
      all_goals refine dr_cons (op_nilc_box rfl rfl) ?_
      all_goals refine dr_cons (op_fab f113_0 rfl rfl) ?_
      all_goals refine dr_cons (op_ld ty22 rfl rfl rfl) ?_
      all_goals refine dr_cons (op_len sl22 rfl rfl) ?_
      all_goals refine dr_cons (op_rem rfl rfl rfl (by (show (r.b.length : Int) ≠ 0; omega))) ?_
      all_goals refine dr_cons (op_ix sl22 rfl rfl rfl (by omega) hx2) ?_
      all_goals refine dr_cons (op_ldr ty5 rfl rfl) ?_
      all_goals refine dr_cons (op_cvb rfl rfl us5 ui3) ?_
      all_goals refine dr_cons (op_mul rfl rfl rfl (by omega)) ?_
      all_goals refine dr_cons (op_add rfl rfl rfl (by omega)) ?_
      all_goals refine dr_cons (op_mv rfl (Conv.of rfl) rfl) ?_
      all_goals refine dr_cons (op_mul rfl rfl rfl (by omega)) ?_
      all_goals refine dr_cons (op_add rfl rfl rfl (by omega)) ?_
      all_goals refine dr_cons (op_mv rfl (Conv.of rfl) rfl) ?_
      all_goals refine dr_cons (op_mv rfl (Conv.of rfl) rfl) ?_
      all_goals refine dr_cons (op_nilc_box rfl rfl) ?_
      all_goals refine dr_cons (op_fab f113_0 rfl rfl) ?_
      all_goals refine dr_cons (op_ld ty22 rfl rfl rfl) ?_
      all_goals refine dr_cons (op_len sl22 rfl rfl) ?_
      all_goals refine dr_cons (op_quo rfl rfl rfl (by (show (r.b.length : Int) ≠ 0; omega))) ?_
      all_goals refine dr_cons (op_mul rfl rfl rfl (by (rw [h4]; omega))) ?_
      all_goals refine dr_cons (op_add rfl rfl rfl (by (rw [h4]; omega))) ?_
      all_goals refine dr_cons (op_as rfl (Conv.of rfl) rfl) ?_
      all_goals refine dr_nil mixed rfl ?_
      all_goals refine awp_seq (awp_region (id := 8) ?_)
      all_goals refine awpOps_cons (op_mv rfl (Conv.of rfl) rfl) ?_
      all_goals refine awpOps_cons (op_mv rfl (Conv.of rfl) rfl) ?_
      all_goals refine awpOps_cons (op_quo rfl rfl rfl (by decide)) ?_
      all_goals refine awpOps_cons (op_xor rfl rfl rfl) ?_
      all_goals refine awpOps_cons (op_as rfl (Conv.of rfl) rfl) ?_
      all_goals refine awpOps_nil ?_
      all_goals refine awp_seq (awp_region (id := 9) ?_)
      all_goals refine awpOps_cons (op_mv rfl (Conv.of rfl) rfl) ?_
      all_goals refine awpOps_cons (op_mv rfl (Conv.of rfl) rfl) ?_
      all_goals refine awpOps_cons (op_rem rfl rfl rfl (by exact hn)) ?_
      all_goals refine awpOps_cons (op_as rfl (Conv.of rfl) rfl) ?_
      all_goals refine awpOps_nil ?_
      refine awp_ret ?_
      repeat first | refine rt_seq ?_ | refine rt_block ?_
      refine finO1 [(0, .cell (nx r 1))] (.v rfl (Conv.of rfl)) (fun o ho => by cases ho) (olk rfl obOk_cell oln) (hS_keys rfl) ?_
      show AV.v _ = AV.v _
      unfold pk pickV mixV
      rw [if_neg (by rw [h]; decide), if_neg (by simpa using hge)]
      rfl
end Go.Proofs.YtompnmkpgffhkaaGreat

/- The reference: draws of payments and chains. -/
set_option linter.unusedVariables false
set_option linter.unusedSimpArgs false
namespace Go.Proofs.YtompnmkpgffhkaaGreat
open Go Go.Wt
theorem l71Pay_ct (r : Rd) (hp : Far 900000 r) : CtO Tryz.prog 88 [.box 0 (IsLens.whole Rd)] [(0, .cell r)] (.v (payV r)) [(0, .cell (nx r 3))] := by
  have hp1 : Far 900001 (nx r 1) := hp.nx (by omega) (by omega)
  have hp2 : Far 900002 (nx (nx r 1) 1) := hp1.nx (by omega) (by omega)
  have b0 := pk_bd hp (by omega) 3
  have b1 := pk_bd hp1 (by omega) 2
  have b2 := pk_bd hp2 (by omega) 9
  have c0 := b0.2 (by omega)
  have c1 := b1.2 (by omega)
  have c2 := b2.2 (by omega)
  have m1 := tmod_bd (show 0 ≤ 1 + pk r 3 + pk (nx r 1) 2 by omega) (show (0 : Int) < 3 by omega)
  refine Ct.intro Tryz.func88 rfl rfl ?_
  all_goals refine awp_seq (awp_region (id := 0) ?_)
  all_goals refine awpOps_cons (op_alloc (o := 2) z46 rfl rfl) ?_
  all_goals refine awpOps_nil ?_
  all_goals refine awp_seq (awp_region (id := 1) ?_)
  all_goals refine awpOps_cons (op_mv rfl (Conv.of rfl) rfl) ?_
  all_goals refine awpOps_cons (op_callO fb47 (.cons rfl (Conv.of rfl) (.cons rfl (Conv.of rfl) (.nil _))) (pick_ct r 3 (by unfold Far at hp; omega)) (olsk rfl ols0) (oksk (by exact obOk_cell) oks0) (oksk (by exact obOk_cell) oks0) rfl (argOb rfl rfl rfl (argOk' rfl rfl argO0)) (fun o ho => by cases ho) rfl) ?_
  all_goals refine awpOps_cons (op_add rfl rfl rfl (by omega)) ?_
  all_goals refine awpOps_cons (op_as rfl (Conv.of rfl) rfl) ?_
  all_goals refine awpOps_nil ?_
  all_goals refine awp_seq (awp_region (id := 2) ?_)
  all_goals refine awpOps_cons (op_mv rfl (Conv.of rfl) rfl) ?_
  all_goals refine awpOps_cons (op_mv rfl (Conv.of rfl) rfl) ?_
  all_goals refine awpOps_cons (op_mv rfl (Conv.of rfl) rfl) ?_
  all_goals refine awpOps_cons (op_callO fb47 (.cons rfl (Conv.of rfl) (.cons rfl (Conv.of rfl) (.nil _))) (pick_ct (nx r 1) 2 (by unfold Far at hp1; omega)) (olsk rfl ols0) (oksk (by exact obOk_cell) oks0) (oksk (by exact obOk_cell) oks0) rfl (argOb rfl rfl rfl (argOk' rfl rfl argO0)) (fun o ho => by cases ho) rfl) ?_
  all_goals refine awpOps_cons (op_add rfl rfl rfl (by omega)) ?_
  all_goals refine awpOps_cons (op_rem rfl rfl rfl (by decide)) ?_
  all_goals refine awpOps_cons (op_add rfl rfl rfl (by omega)) ?_
  all_goals refine awpOps_cons (op_mv rfl (Conv.of rfl) rfl) ?_
  all_goals refine awpOps_cons (op_callO fb47 (.cons rfl (Conv.of rfl) (.cons rfl (Conv.of rfl) (.nil _))) (pick_ct (nx (nx r 1) 1) 9 (by unfold Far at hp2; omega)) (olsk rfl ols0) (oksk (by exact obOk_cell) oks0) (oksk (by exact obOk_cell) oks0) rfl (argOb rfl rfl rfl (argOk' rfl rfl argO0)) (fun o ho => by cases ho) rfl) ?_
  all_goals refine awpOps_cons (op_add rfl rfl rfl (by omega)) ?_
  all_goals refine awpOps_cons (op_build (.cons f46_0 rfl (Conv.of rfl) (.cons f46_1 rfl (Conv.of rfl) (.cons f46_2 rfl (Conv.of rfl) (.nil _)))) z46 rfl pl46 rfl) ?_
  all_goals refine awpOps_cons (op_st ty46 rfl rfl (Conv.of rfl) rfl) ?_
  all_goals refine awpOps_nil ?_
  refine awp_ret ?_
  repeat first | refine rt_seq ?_ | refine rt_block ?_
  refine finO1 [(0, .cell (nx r 3))] (.rc ty46 rfl rfl) (fun o ho => by cases ho) (olk (by show Wt.Obj.cell _ = Wt.Obj.cell _; rw [nx_nx, nx_nx]; rfl) obOk_cell oln) (hS_keys rfl) ?_
  show AV.v _ = AV.v _
  unfold payV
  rw [nx_nx]; rfl
set_option maxHeartbeats 1000000 in
theorem l71Chain_ct (r : Rd) (hp : Far 800000 r) : CtO Tryz.prog 164 [.box 0 (IsLens.whole Rd)] [(0, .cell r)] (.v (chainV r)) [(0, .cell (chainR r))] := by
  have b0 := pk_bd hp (by omega) 7
  have c0 := b0.2 (by omega)
  refine Ct.intro Tryz.func164 rfl rfl ?_
  all_goals refine awp_seq (awp_region (id := 0) ?_)
  all_goals refine awpOps_cons (op_as rfl (Conv.of rfl) rfl) ?_
  all_goals refine awpOps_nil ?_
  all_goals refine awp_seq (awp_region (id := 1) ?_)
  all_goals refine awpOps_cons (op_bsl sl35 z67 (.nil _) rfl (by decide) rfl) ?_
  all_goals refine awpOps_cons (op_asl rfl rfl rfl rfl) ?_
  all_goals refine awpOps_nil ?_
  all_goals refine awp_seq (awp_region (id := 2) ?_)
  all_goals refine awpOps_cons (op_as rfl (Conv.of rfl) rfl) ?_
  all_goals refine awpOps_nil ?_
  all_goals refine awp_seq (awp_seq (awp_region (id := 3) ?_))
  all_goals refine awpOps_cons (op_mv rfl (Conv.of rfl) rfl) ?_
  all_goals refine awpOps_cons (op_callO fb47 (.cons rfl (Conv.of rfl) (.cons rfl (Conv.of rfl) (.nil _))) (pick_ct r 7 (by unfold Far at hp; omega)) (olsk rfl ols0) (oksk (by exact obOk_cell) oks0) (oksk (by exact obOk_cell) oks0) rfl (argOb rfl rfl rfl (argOk' rfl rfl argO0)) (fun o ho => by cases ho) rfl) ?_
  all_goals refine awpOps_cons (op_as rfl (Conv.of rfl) rfl) ?_
  all_goals refine awpOps_nil ?_
  refine awp_block ?_
  refine awp_loop' (fun n_ s => ∃ (k : Nat), ∃ (hk : n_ + k = (pk r 7).toNat), s = mkSt 30 [(0, .box 0 (IsLens.whole Rd)), (3, .v (OList.mk (chIter r k).2.1 true)), (4, .v (chIter r k).1), (5, .v (pk r 7 - (k : Int)))] [(0, .cell (chIter r k).2.2)]) ((pk r 7).toNat) ⟨0, by omega, rfl⟩ (Le.mk rfl (tlb rfl rfl rfl (tle rfl (by rfl) rfl (tle rfl (by rfl) rfl (tle rfl (by (show AV.v _ = AV.v _; congr 1; omega)) rfl tln)))) (olk (by rfl) (by exact obOk_cell) oln) (hS_sub (a := [(0, .cell r)]) rfl)) ?_
  rintro n_ s ⟨k, hk, rfl⟩
  have hk6 : k ≤ 6 := by omega
  have hat := chIter_at hp (by omega) k (by omega)
  have hf0 : Far 800500 (chIter r k).2.2 := by rw [chIter_r]; exact hp.nx (by omega) (by omega)
  have hln := chIter_len r k
  all_goals refine awp_seq (awp_seq (awp_region (id := 4) ?_))
  all_goals refine awpOps_cons (op_mv rfl (Conv.of rfl) rfl) ?_
  all_goals refine awpOps_cons (op_gtr rfl rfl rfl) ?_
  all_goals refine awpOps_nil ?_
  refine awp_cond rfl (fun h => ?_) (fun h => ?_)
  · have hlt : (k : Int) < pk r 7 := by have := of_decide_eq_true h; omega
    generalize hs : chIter r k = s at hat hf0 hln
    have hf1 : Far 800501 (nx s.2.2 1) := hf0.nx (by omega) (by omega)
    have hf2 : Far 800502 (nx (nx s.2.2 1) 1) := hf1.nx (by omega) (by omega)
    have d0 := pk_bd hf0 (by omega) 6
    have d1 := pk_bd hf1 (by omega) 3
    have e0 := d0.2 (by omega)
    have e1 := d1.2 (by omega)
    have hq : IntKind.i64.wrap ((pk s.2.2 6).tdiv 5) = 0 ∨ IntKind.i64.wrap ((pk s.2.2 6).tdiv 5) = 1 := by
      have : (pk s.2.2 6).tdiv 5 = 0 ∨ (pk s.2.2 6).tdiv 5 = 1 := by
        rw [Int.tdiv_eq_ediv_of_nonneg d0.1]; omega
      rw [wrap_in (by omega)]; exact this
    have hm : 0 ≤ IntKind.i64.wrap ((pk s.2.2 6).tdiv 5) * pk (nx s.2.2 1) 3 ∧ IntKind.i64.wrap ((pk s.2.2 6).tdiv 5) * pk (nx s.2.2 1) 3 ≤ 2 := by
      rcases hq with hq | hq <;> rw [hq] <;> omega
    refine awp_skip ?_
    refine awp_seq (awp_block ?_)
    all_goals refine awp_seq (awp_region (id := 6) ?_)
    all_goals refine awpOps_cons (op_mv rfl (Conv.of rfl) rfl) ?_
    all_goals refine awpOps_cons (op_add rfl rfl rfl (by omega)) ?_
    all_goals refine awpOps_cons (op_mv rfl (Conv.of rfl) rfl) ?_
    all_goals refine awpOps_cons (op_callO fb47 (.cons rfl (Conv.of rfl) (.cons rfl (Conv.of rfl) (.nil _))) (pick_ct s.2.2 6 (by unfold Far at hf0; omega)) (olsk rfl ols0) (oksk (by exact obOk_cell) oks0) (oksk (by exact obOk_cell) oks0) rfl (argOb rfl rfl rfl (argOk' rfl rfl argO0)) (fun o ho => by cases ho) rfl) ?_
    all_goals refine awpOps_cons (op_quo rfl rfl rfl (by decide)) ?_
    all_goals refine awpOps_cons (op_mv rfl (Conv.of rfl) rfl) ?_
    all_goals refine awpOps_cons (op_callO fb47 (.cons rfl (Conv.of rfl) (.cons rfl (Conv.of rfl) (.nil _))) (pick_ct (nx s.2.2 1) 3 (by unfold Far at hf1; omega)) (olsk rfl ols0) (oksk (by exact obOk_cell) oks0) (oksk (by exact obOk_cell) oks0) rfl (argOb rfl rfl rfl (argOk' rfl rfl argO0)) (fun o ho => by cases ho) rfl) ?_
    all_goals refine awpOps_cons (op_mul rfl rfl rfl (by omega)) ?_
    all_goals refine awpOps_cons (op_add rfl rfl rfl (by omega)) ?_
    all_goals refine awpOps_cons (op_as rfl (Conv.of rfl) rfl) ?_
    all_goals refine awpOps_nil ?_
    all_goals refine awp_region (id := 7) ?_
    all_goals refine awpOps_cons (op_mvl rfl rfl rfl rfl) ?_
    all_goals refine awpOps_cons (op_mv rfl (Conv.of rfl) rfl) ?_
    all_goals refine awpOps_cons (op_mv rfl (Conv.of rfl) rfl) ?_
    all_goals refine awpOps_cons (op_callO fb88 (.cons rfl (Conv.of rfl) (.nil _)) (l71Pay_ct (nx (nx s.2.2 1) 1) (hf2.weak (by omega))) (olsk rfl ols0) (oksk (by exact obOk_cell) oks0) (oksk (by exact obOk_cell) oks0) rfl (argOb rfl rfl rfl argO0) (fun o ho => by cases ho) rfl) ?_
    all_goals refine awpOps_cons (op_build (.cons f67_0 rfl (Conv.of rfl) (.cons f67_1 rfl (Conv.of rfl) (.nil _))) z67 rfl pl67 rfl) ?_
    all_goals refine awpOps_cons (op_bsl sl35 z67 (.cons rfl (Conv.of rfl) (.nil _)) rfl (by decide) rfl) ?_
    all_goals refine awpOps_cons (op_app sl35 z67 ul35 rfl rfl rfl (by (simp; omega)) (by (simp; omega)) rfl rfl) ?_
    all_goals refine awpOps_cons (op_asl rfl rfl rfl rfl) ?_
    all_goals refine awpOps_nil ?_
    all_goals refine awp_region (id := 5) ?_
    all_goals refine awpOps_cons (op_mv rfl (Conv.of rfl) rfl) ?_
    all_goals refine awpOps_cons (op_sub rfl rfl rfl (by omega)) ?_
    all_goals refine awpOps_cons (op_as rfl (Conv.of rfl) rfl) ?_
    all_goals refine awpOps_nil ?_
    subst hs
    repeat first | refine nx_seq ?_ | refine nx_block ?_
    exact ⟨n_ - 1, _, by omega, ⟨k + 1, by omega, rfl⟩, Le.mk rfl (tlb rfl rfl rfl (tle rfl (by (show AV.v _ = AV.v _; simp only [chIter, chStep, nx_nx]; rfl)) rfl (tle rfl (by rfl) rfl (tle rfl (by (show AV.v _ = AV.v _; congr 1; omega)) rfl tln)))) (olk (by (show Wt.Obj.cell _ = Wt.Obj.cell _; simp only [chIter, chStep, nx_nx]; rfl)) (by exact obOk_cell) oln) (hS_sub (a := [(0, .cell r)]) rfl)⟩
  · refine awp_exit ?_
    repeat refine ex_seq ?_
    refine ex_block ?_
    have hge : pk r 7 - (k : Int) ≤ 0 := by have := of_decide_eq_false h; omega
    have hk' : k = (pk r 7).toNat := by omega
    all_goals refine awp_seq (awp_region (id := 8) ?_)
    all_goals refine awpOps_cons (op_mvl rfl rfl rfl rfl) ?_
    all_goals refine awpOps_cons (op_asl rfl rfl rfl rfl) ?_
    all_goals refine awpOps_nil ?_
    refine awp_ret ?_
    repeat first | refine rt_seq ?_ | refine rt_block ?_
    subst hk'
    exact finO1 [(0, .cell (chainR r))] (.v rfl Conv.ol) (fun o ho => by cases ho) (olk rfl obOk_cell oln) (hS_keys rfl) rfl
/-- What is drawn for a world. -/
abbrev ro (r : Rd) (w : Wrld) : List (Nat × Wt.Obj) := [(0, .cell r), (1, .arr (w.nodes.map sN))]
theorem inTwo {k : Nat → Bool} {l : List Nat} (hl : l = [1]) (h : k 1 = true) : ∀ o ∈ l, k o = true := fun o ho => by subst hl; simp at ho; subst ho; exact h
set_option maxHeartbeats 4000000 in
theorem l72Forge_ct (r : Rd) (w : Wrld) (hw : FineX w) (hp : Far 700000 r) : Ct Tryz.prog 141 [.box 0 (IsLens.whole Rd), .v (fW w)] (obs (ro r w)) (fun r1 h1 => ∃ (v : Vote) (r' : Rd), r1 = .v v ∧ h1 = obs (ro r' w) ∧ v.chain.length ≤ 100 ∧ r.p ≤ r'.p ∧ r'.p ≤ r.p + 100) := by
  have h4 := hw.four
  have hgl := hw.fine.log
  have hgll := hgl.len
  have hln : ((w.nodes.map sN).length : Int) = 4 := by simp [h4]
  refine Ct.intro Tryz.func141 rfl rfl ?_
  all_goals refine awp_seq (awp_region (id := 0) ?_)
  all_goals refine awpOps_cons (op_box (o := 5) ty29_WrldS rfl (Conv.of rfl) rfl rfl) ?_
  all_goals refine awpOps_cons (op_alloc (o := 6) z48 rfl rfl) ?_
  all_goals refine awpOps_nil ?_
  all_goals refine awp_seq (awp_region (id := 1) ?_)
  all_goals refine awpOps_cons (op_mv rfl (Conv.of rfl) rfl) ?_
  all_goals refine awpOps_cons (op_callO fb164 (.cons rfl (Conv.of rfl) (.nil _)) (l71Chain_ct r (hp.weak (by omega))) (olsk rfl ols0) (oksk (by exact obOk_cell) oks0) (oksk (by exact obOk_cell) oks0) rfl (argOb rfl rfl rfl argO0) (fun o ho => by cases ho) rfl) ?_
  all_goals refine awpOps_cons (op_as rfl (Conv.of rfl) rfl) ?_
  all_goals refine awpOps_nil ?_
  have hf1 := chainR_far hp (by omega)
  have hcl := chainV_len hp (by omega)
  have hr1 : r.p ≤ (chainR r).p ∧ (chainR r).p ≤ r.p + 31 := by
    have := (pk_bd hp (by omega) 7).2 (by omega)
    have := (pk_bd hp (by omega) 7).1
    rw [chainR_eq]; simp only [nx]; omega
  generalize chainR r = r1 at *
  generalize chainV r = c1 at *
  refine awp_seq_ex (ι := List Itm × Rd) (fun i => mkSt 54 [(0, .box 0 (IsLens.whole Rd)), (3, .box 5 (IsLens.whole WrldS)), (4, .box 6 (IsLens.whole Vote)), (5, .v i.1)] [(0, .cell i.2), (1, .arr (w.nodes.map sN)), (5, .cell (fW w)), (6, .cell Vote.zero)]) (fun i => i.1.length ≤ 50 ∧ r.p ≤ i.2.p ∧ i.2.p ≤ r.p + 40) ?_ ?_
  · have hk1 := pk_bd hf1 (by omega) 4
    all_goals refine awp_seq (awp_region (id := 2) ?_)
    all_goals refine awpOps_cons (op_fab f29_2_WrldS rfl rfl) ?_
    all_goals refine awpOps_cons (op_ldl ty27_OListVote rfl rfl rfl) ?_
    all_goals refine awpOps_cons (op_len sl27 rfl rfl) ?_
    all_goals refine awpOps_cons (op_gtr rfl rfl rfl) ?_
    all_goals refine awpOps_cons (op_mv rfl (Conv.of rfl) rfl) ?_
    all_goals refine g_split (t := 13) rfl (fun h => ?_) (fun h => ?_)
    all_goals first | refine awpOps_cons (g_off rfl rfl rfl rfl rfl) ?_ | refine awpOps_cons (g_on rfl rfl rfl (op_mv rfl (Conv.of rfl) rfl)) ?_
    all_goals first | refine awpOps_cons (g_off rfl rfl rfl rfl rfl) ?_ | refine awpOps_cons (g_on rfl rfl rfl (op_callO fb47 (.cons rfl (Conv.of rfl) (.cons rfl (Conv.of rfl) (.nil _))) (pick_ct r1 4 (by unfold Far at hf1; omega)) (olsk rfl ols0) (oksk (by exact obOk_cell) oks0) (oksk (by exact obOk_cell) oks0) rfl (argOb rfl rfl rfl (argOk' rfl rfl argO0)) (fun o ho => by cases ho) rfl)) ?_
    all_goals first | refine awpOps_cons (g_off rfl rfl rfl rfl rfl) ?_ | refine awpOps_cons (g_on rfl rfl rfl (op_gtr rfl rfl rfl)) ?_
    all_goals refine awpOps_cons (op_pick rfl rfl rfl rfl) ?_
    all_goals refine awpOps_nil ?_
    · refine awp_cond rfl (fun h2 => ?_) (fun h2 => ?_)
      · have hlg : 0 < w.log.length := by have := of_decide_eq_true h; simpa [fW] using this
        have hf2 : Far (700000 + 32) (nx r1 1) := hf1.nx (by omega) (by omega)
        have hk2 := pk_bd hf2 (by omega) (w.log.length : Int)
        have hk3 := hk2.2 (by omega)
        have hv : w.log[(pk (nx r1 1) (w.log.length : Int)).toNat]? = some (w.log[(pk (nx r1 1) (w.log.length : Int)).toNat]'(by omega)) := List.getElem?_eq_getElem (by omega)
        generalize hvv : w.log[(pk (nx r1 1) (w.log.length : Int)).toNat]'(by omega) = v at hv
        have hvo := hgl.ok v (List.mem_of_getElem? hv)
        have hvc := chainOk_len (voteOk_chain hvo)
        all_goals refine dr_start (id := 3) ?_
        all_goals refine dr_cons (op_fab f29_2_WrldS rfl rfl) ?_
        all_goals refine dr_cons (op_ldl ty27_OListVote rfl rfl rfl) ?_
        all_goals refine dr_cons (op_mv rfl (Conv.of rfl) rfl) ?_
        all_goals refine dr_cons (op_fab f29_2_WrldS rfl rfl) ?_
        all_goals refine dr_cons (op_ldl ty27_OListVote rfl rfl rfl) ?_
        all_goals refine dr_cons (op_len sl27 rfl rfl) ?_
        all_goals refine dr_cons (op_callO fb47 (.cons rfl (Conv.of rfl) (.cons rfl (Conv.of rfl) (.nil _))) (pick_ct (nx r1 1) (w.log.length : Int) (by unfold Far at hf2; omega)) (olsk rfl ols0) (oksk (by exact obOk_cell) oks0) (oksk (by exact obOk_cell) oks0) rfl (argOb rfl rfl rfl (argOk' rfl rfl argO0)) (fun o ho => by cases ho) rfl) ?_
        all_goals refine dr_cons (op_ix sl27 rfl rfl rfl hk2.1 hv) ?_
        all_goals refine dr_cons (op_far f48_1 rfl rfl) ?_
        all_goals refine dr_cons (op_ldr ty35 rfl rfl) ?_
        all_goals refine dr_cons (op_call fb139 (.cons rfl (Conv.of rfl) (.nil _)) (l1Copy_ct v.chain (by omega)) (argOk rfl rfl argOk0) rfl rfl) ?_
        all_goals refine dr_cons (op_asl rfl rfl rfl rfl) ?_
        all_goals refine dr_nil mixed rfl ?_
        exact nx_seq ⟨(v.chain, nx (nx r1 1) 1), ⟨by show v.chain.length ≤ 50; omega, by simp only [nx]; omega, by simp only [nx]; omega⟩, Le.mk rfl (tlb rfl rfl rfl (tlb rfl rfl rfl (tlb rfl rfl rfl (tlc rfl (Conv.ol) rfl tln)))) (olk rfl (by exact obOk_cell) (olk rfl (by exact obOkNs) (olk rfl (by exact obOkS rfl) (olk rfl (by exact obOk_cell) oln)))) (hS_sub (a := ro r w) rfl)⟩
      · refine awp_skip ?_
        exact nx_seq ⟨(c1, nx r1 1), ⟨by show c1.length ≤ 50; omega, by simp only [nx]; omega, by simp only [nx]; omega⟩, Le.mk rfl (tlb rfl rfl rfl (tlb rfl rfl rfl (tlb rfl rfl rfl (tle rfl (rfl) rfl tln)))) (olk rfl (by exact obOk_cell) (olk rfl (by exact obOkNs) (olk rfl (by exact obOkS rfl) (olk rfl (by exact obOk_cell) oln)))) (hS_sub (a := ro r w) rfl)⟩
    · refine awp_cond rfl (fun h2 => absurd h2 (by decide)) (fun h2 => ?_)
      refine awp_skip ?_
      exact nx_seq ⟨(c1, r1), ⟨by show c1.length ≤ 50; omega, hr1.1, by show r1.p ≤ r.p + 40; omega⟩, Le.mk rfl (tlb rfl rfl rfl (tlb rfl rfl rfl (tlb rfl rfl rfl (tle rfl (rfl) rfl tln)))) (olk rfl (by exact obOk_cell) (olk rfl (by exact obOkNs) (olk rfl (by exact obOkS rfl) (olk rfl (by exact obOk_cell) oln)))) (hS_sub (a := ro r w) rfl)⟩
  · rintro ⟨c2, r2⟩ ⟨g1, g2, g3⟩
    simp only at g1 g2 g3 ⊢
    have hf2 : Far (700000 + 40) r2 := by unfold Far at hp ⊢; omega
    refine awp_seq_ex (ι := List Itm × Rd) (fun i => mkSt 54 [(0, .box 0 (IsLens.whole Rd)), (3, .box 5 (IsLens.whole WrldS)), (4, .box 6 (IsLens.whole Vote)), (5, .v i.1)] [(0, .cell i.2), (1, .arr (w.nodes.map sN)), (5, .cell (fW w)), (6, .cell Vote.zero)]) (fun i => i.1.length ≤ 60 ∧ r.p ≤ i.2.p ∧ i.2.p ≤ r.p + 50) ?_ ?_
    · all_goals refine awp_seq (awp_region (id := 4) ?_)
      all_goals refine awpOps_cons (op_mv rfl (Conv.of rfl) rfl) ?_
      all_goals refine awpOps_cons (op_callO fb47 (.cons rfl (Conv.of rfl) (.cons rfl (Conv.of rfl) (.nil _))) (pick_ct r2 2 (by unfold Far at hf2; omega)) (olsk rfl ols0) (oksk (by exact obOk_cell) oks0) (oksk (by exact obOk_cell) oks0) rfl (argOb rfl rfl rfl (argOk' rfl rfl argO0)) (fun o ho => by cases ho) rfl) ?_
      all_goals refine awpOps_cons (op_eql rfl rfl rfl) ?_
      all_goals refine awpOps_nil ?_
      refine awp_cond rfl (fun h2 => ?_) (fun h2 => ?_)
      · have hf3 : Far (700000 + 41) (nx r2 1) := hf2.nx (by omega) (by omega)
        have hf4 : Far (700000 + 42) (nx (nx r2 1) 1) := hf3.nx (by omega) (by omega)
        have hk2 := pk_bd hf3 (by omega) 4
        have hk3 := hk2.2 (by omega)
        have hlt : (pk (nx r2 1) 4).toNat < w.nodes.length := by omega
        have hx : w.nodes[(pk (nx r2 1) 4).toNat]? = some w.nodes[(pk (nx r2 1) 4).toNat] := List.getElem?_eq_getElem hlt
        generalize hnn : w.nodes[(pk (nx r2 1) 4).toNat] = n at hx
        have hx' : (w.nodes.map sN)[(pk (nx r2 1) 4).toNat]? = some (sN n) := by rw [List.getElem?_map, hx]; rfl
        have hgd := hw.fine.seen n (List.mem_of_getElem? hx)
        have htip := hgd.tipS
        all_goals refine awp_seq (dr_start (id := 5) ?_)
        all_goals refine dr_cons (op_fab f29_1_WrldS rfl rfl) ?_
        all_goals refine dr_cons (op_ld ty26_NRef rfl rfl rfl) ?_
        all_goals refine dr_cons (op_mv rfl (Conv.of rfl) rfl) ?_
        all_goals refine dr_cons (op_callO fb47 (.cons rfl (Conv.of rfl) (.cons rfl (Conv.of rfl) (.nil _))) (pick_ct (nx r2 1) 4 (by unfold Far at hf3; omega)) (olsk rfl ols0) (oksk (by exact obOk_cell) oks0) (oksk (by exact obOk_cell) oks0) rfl (argOb rfl rfl rfl (argOk' rfl rfl argO0)) (fun o ho => by cases ho) rfl) ?_
        all_goals refine dr_cons (op_ixA sl26_NodS rfl rfl rfl rfl ⟨hk2.1, by omega⟩) ?_
        all_goals refine dr_cons (op_ldde ty39_NodS rfl rfl hx' rfl) ?_
        all_goals refine dr_cons (op_alloc (o := 7) z39_NodS rfl rfl) ?_
        all_goals refine dr_cons (op_st ty39_NodS rfl rfl (Conv.of rfl) rfl) ?_
        all_goals refine dr_nil mixed rfl ?_
        all_goals refine dr_start (id := 6) ?_
        all_goals refine dr_cons (op_fab f39_3_NodS rfl rfl) ?_
        all_goals refine dr_cons (op_ldl ty27_OListVote rfl rfl rfl) ?_
        all_goals refine dr_cons (op_call fb159 (.cons rfl (Conv.of rfl) (.nil _)) (l11Tip_ct n.seen hgd.l hgd.v) (argOk rfl rfl argOk0) rfl rfl) ?_
        all_goals refine dr_cons (op_call fb139 (.cons rfl (Conv.of rfl) (.nil _)) (l1Copy_ct (tipOfS n.seen) (by omega)) (argOk rfl rfl argOk0) rfl rfl) ?_
        all_goals refine dr_cons (op_fab f29_0_WrldS rfl rfl) ?_
        all_goals refine dr_cons (op_ld ty3 rfl rfl rfl) ?_
        all_goals refine dr_cons (op_max rfl rfl rfl) ?_
        all_goals refine dr_cons (op_mv rfl (Conv.of rfl) rfl) ?_
        all_goals refine dr_cons (op_callO fb88 (.cons rfl (Conv.of rfl) (.nil _)) (l71Pay_ct (nx (nx r2 1) 1) (hf4.weak (by omega))) (olsk rfl ols0) (oksk (by exact obOk_cell) oks0) (oksk (by exact obOk_cell) oks0) rfl (argOb rfl rfl rfl argO0) (fun o ho => by cases ho) rfl) ?_
        all_goals refine dr_cons (op_build (.cons f67_0 rfl (Conv.of rfl) (.cons f67_1 rfl (Conv.of rfl) (.nil _))) z67 rfl pl67 rfl) ?_
        all_goals refine dr_cons (op_bsl sl35 z67 (.cons rfl (Conv.of rfl) (.nil _)) rfl (by decide) rfl) ?_
        all_goals refine dr_cons (op_app sl35 z67 ul35 rfl rfl rfl (by (simp; omega)) (by (simp; omega)) rfl rfl) ?_
        all_goals refine dr_cons (op_asl rfl rfl rfl rfl) ?_
        all_goals refine dr_nil mixed rfl ?_
        exact nx_seq ⟨(tipOfS n.seen ++ [⟨max w.epoch 1, payV (nx (nx r2 1) 1)⟩], nx (nx (nx r2 1) 1) 3), ⟨by simp; omega, by simp only [nx]; omega, by simp only [nx]; omega⟩, Le.mk rfl (tlb rfl rfl rfl (tlb rfl rfl rfl (tlb rfl rfl rfl (tlc rfl (Conv.ol) rfl tln)))) (olk rfl (by exact obOk_cell) (olk rfl (by exact obOkNs) (olk rfl (by exact obOkS rfl) (olk rfl (by exact obOk_cell) oln)))) (hS_sub (a := ro r w) rfl)⟩
      · refine awp_skip ?_
        exact nx_seq ⟨(c2, nx r2 1), ⟨by show c2.length ≤ 60; omega, by simp only [nx]; omega, by simp only [nx]; omega⟩, Le.mk rfl (tlb rfl rfl rfl (tlb rfl rfl rfl (tlb rfl rfl rfl (tle rfl (rfl) rfl tln)))) (olk rfl (by exact obOk_cell) (olk rfl (by exact obOkNs) (olk rfl (by exact obOkS rfl) (olk rfl (by exact obOk_cell) oln)))) (hS_sub (a := ro r w) rfl)⟩
    · rintro ⟨c3, r3⟩ ⟨k1, k2, k3⟩
      simp only at k1 k2 k3 ⊢
      all_goals refine awp_seq (awp_region (id := 7) ?_)
      all_goals refine awpOps_cons (op_fab f29_3_WrldS rfl rfl) ?_
      all_goals refine awpOps_cons (op_ld ty3 rfl rfl rfl) ?_
      all_goals refine awpOps_cons (op_mv rfl (Conv.of rfl) rfl) ?_
      all_goals refine awpOps_cons (op_build (.cons f48_0 rfl (Conv.of rfl) (.cons f48_1 rfl (Conv.of rfl) (.nil _))) z48 rfl pl48 rfl) ?_
      all_goals refine awpOps_cons (op_st ty48 rfl rfl (Conv.of rfl) rfl) ?_
      all_goals refine awpOps_nil ?_
      refine awp_ret ?_
      repeat first | refine rt_seq ?_ | refine rt_block ?_
      refine ⟨_, _, res1 (ol := ro r3 w) (.rc ty48 rfl rfl) (fun o ho => by cases ho) (olk rfl obOk_cell (olk rfl obOkNs oln)) (hS_keys rfl), _, r3, rfl, rfl, ?_, k2, by omega⟩
      show c3.length ≤ 100
      omega
end Go.Proofs.YtompnmkpgffhkaaGreat

/- The reference: draws of events. -/
set_option linter.unusedVariables false
set_option linter.unusedSimpArgs false
namespace Go.Proofs.YtompnmkpgffhkaaGreat
open Go Go.Wt
set_option maxHeartbeats 4000000 in
theorem l72Event_ct (r : Rd) (w : Wrld) (hw : FineX w) (hp : Far 600000 r) : Ct Tryz.prog 97 [.box 0 (IsLens.whole Rd), .v (fW w)] (obs (ro r w)) (fun r1 h1 => ∃ (e : Evt) (r' : Rd), r1 = .v e ∧ h1 = obs (ro r' w) ∧ r.p ≤ r'.p ∧ r'.p ≤ r.p + 120) := by
  have hep := hw.ep
  have hgll := hw.ll
  have hb8 := pk_bd hp (by omega) 8
  refine Ct.intro Tryz.func97 rfl rfl ?_
  all_goals refine awp_seq (awp_region (id := 0) ?_)
  all_goals refine awpOps_cons (op_box (o := 5) ty29_WrldS rfl (Conv.of rfl) rfl rfl) ?_
  all_goals refine awpOps_cons (op_alloc (o := 6) z50 rfl rfl) ?_
  all_goals refine awpOps_nil ?_
  all_goals refine awp_seq (awp_region (id := 1) ?_)
  all_goals refine awpOps_cons (op_fab f29_2_WrldS rfl rfl) ?_
  all_goals refine awpOps_cons (op_ldl ty27_OListVote rfl rfl rfl) ?_
  all_goals refine awpOps_cons (op_len sl27 rfl rfl) ?_
  all_goals refine awpOps_cons (op_as rfl (Conv.of rfl) rfl) ?_
  all_goals refine awpOps_nil ?_
  refine awp_seq_ex (ι := Rd) (fun i => mkSt 64 [(0, .box 0 (IsLens.whole Rd)), (3, .box 5 (IsLens.whole WrldS)), (4, .box 6 (IsLens.whole Evt))] [(0, .cell i), (1, .arr (w.nodes.map sN)), (5, .cell (fW w)), (6, .cell Evt.zero)]) (fun i => r.p ≤ i.p ∧ i.p ≤ r.p + 1) ?_ ?_
  · all_goals refine awp_seq (awp_region (id := 2) ?_)
    all_goals refine awpOps_cons (op_mv rfl (Conv.of rfl) rfl) ?_
    all_goals refine awpOps_cons (op_gtr rfl rfl rfl) ?_
    all_goals refine awpOps_cons (op_mv rfl (Conv.of rfl) rfl) ?_
    all_goals refine g_split (t := 12) rfl (fun h => ?_) (fun h => ?_)
    all_goals first | refine awpOps_cons (g_off rfl rfl rfl rfl rfl) ?_ | refine awpOps_cons (g_on rfl rfl rfl (op_mv rfl (Conv.of rfl) rfl)) ?_
    all_goals first | refine awpOps_cons (g_off rfl rfl rfl rfl rfl) ?_ | refine awpOps_cons (g_on rfl rfl rfl (op_callO fb47 (.cons rfl (Conv.of rfl) (.cons rfl (Conv.of rfl) (.nil _))) (pick_ct r 8 (by unfold Far at hp; omega)) (olsk rfl ols0) (oksk (by exact obOk_cell) oks0) (oksk (by exact obOk_cell) oks0) rfl (argOb rfl rfl rfl (argOk' rfl rfl argO0)) (fun o ho => by cases ho) rfl)) ?_
    all_goals first | refine awpOps_cons (g_off rfl rfl rfl rfl rfl) ?_ | refine awpOps_cons (g_on rfl rfl rfl (op_lss rfl rfl rfl)) ?_
    all_goals refine awpOps_cons (op_pick rfl rfl rfl rfl) ?_
    all_goals refine awpOps_nil ?_
    · refine awp_cond rfl (fun h2 => ?_) (fun h2 => ?_)
      · have hlg : 0 < w.log.length := by have := of_decide_eq_true h; simpa [fW] using this
        have hf1 : Far 600001 (nx r 1) := hp.nx (by omega) (by omega)
        have hf2 : Far 600002 (nx (nx r 1) 1) := hf1.nx (by omega) (by omega)
        have hf3 : Far 600003 (nx (nx (nx r 1) 1) 1) := hf2.nx (by omega) (by omega)
        have k1 := pk_bd hf1 (by omega) (min (w.log.length : Int) 6)
        have k2 := k1.2 (by omega)
        have k3 := pk_bd hf3 (by omega) (w.log.length : Int)
        have k4 := k3.2 (by omega)
        all_goals refine awp_seq (awp_region (id := 3) ?_)
        all_goals refine awpOps_cons (op_mv rfl (Conv.of rfl) rfl) ?_
        all_goals refine awpOps_cons (op_sub rfl rfl rfl (by (simp only [fW]; omega))) ?_
        all_goals refine awpOps_cons (op_mv rfl (Conv.of rfl) rfl) ?_
        all_goals refine awpOps_cons (op_mv rfl (Conv.of rfl) rfl) ?_
        all_goals refine awpOps_cons (op_min rfl rfl rfl) ?_
        all_goals refine awpOps_cons (op_callO fb47 (.cons rfl (Conv.of rfl) (.cons rfl (Conv.of rfl) (.nil _))) (pick_ct (nx r 1) (min (w.log.length : Int) 6) (by unfold Far at hf1; omega)) (olsk rfl ols0) (oksk (by exact obOk_cell) oks0) (oksk (by exact obOk_cell) oks0) rfl (argOb rfl rfl rfl (argOk' rfl rfl argO0)) (fun o ho => by cases ho) rfl) ?_
        all_goals refine awpOps_cons (op_sub rfl rfl rfl (by (simp only [fW]; omega))) ?_
        all_goals refine awpOps_cons (op_as rfl (Conv.of rfl) rfl) ?_
        all_goals refine awpOps_nil ?_
        refine awp_seq_ex (ι := Int × Rd) (fun i => mkSt 64 [(0, .box 0 (IsLens.whole Rd)), (3, .box 5 (IsLens.whole WrldS)), (4, .box 6 (IsLens.whole Evt)), (6, .v i.1)] [(0, .cell i.2), (1, .arr (w.nodes.map sN)), (5, .cell (fW w)), (6, .cell Evt.zero)]) (fun i => r.p ≤ i.2.p ∧ i.2.p ≤ r.p + 4) ?_ ?_
        · all_goals refine awp_seq (awp_region (id := 4) ?_)
          all_goals refine awpOps_cons (op_mv rfl (Conv.of rfl) rfl) ?_
          all_goals refine awpOps_cons (op_callO fb47 (.cons rfl (Conv.of rfl) (.cons rfl (Conv.of rfl) (.nil _))) (pick_ct (nx (nx r 1) 1) 4 (by unfold Far at hf2; omega)) (olsk rfl ols0) (oksk (by exact obOk_cell) oks0) (oksk (by exact obOk_cell) oks0) rfl (argOb rfl rfl rfl (argOk' rfl rfl argO0)) (fun o ho => by cases ho) rfl) ?_
          all_goals refine awpOps_cons (op_eql rfl rfl rfl) ?_
          all_goals refine awpOps_nil ?_
          refine awp_cond rfl (fun h2 => ?_) (fun h2 => ?_)
          · all_goals refine awp_region (id := 5) ?_
            all_goals refine awpOps_cons (op_mv rfl (Conv.of rfl) rfl) ?_
            all_goals refine awpOps_cons (op_mv rfl (Conv.of rfl) rfl) ?_
            all_goals refine awpOps_cons (op_callO fb47 (.cons rfl (Conv.of rfl) (.cons rfl (Conv.of rfl) (.nil _))) (pick_ct (nx (nx (nx r 1) 1) 1) (w.log.length : Int) (by unfold Far at hf3; omega)) (olsk rfl ols0) (oksk (by exact obOk_cell) oks0) (oksk (by exact obOk_cell) oks0) rfl (argOb rfl rfl rfl (argOk' rfl rfl argO0)) (fun o ho => by cases ho) rfl) ?_
            all_goals refine awpOps_cons (op_as rfl (Conv.of rfl) rfl) ?_
            all_goals refine awpOps_nil ?_
            exact nx_seq ⟨(_, nx (nx (nx (nx r 1) 1) 1) 1), ⟨by simp only [nx]; omega, by simp only [nx]; omega⟩, Le.mk rfl (tlb rfl rfl rfl (tlb rfl rfl rfl (tlb rfl rfl rfl (tle rfl (rfl) rfl tln)))) (olk rfl (by exact obOk_cell) (olk rfl (by exact obOkNs) (olk rfl (by exact obOkS rfl) (olk rfl (by exact obOk_cell) oln)))) (hS_sub (a := ro r w) rfl)⟩
          · refine awp_skip ?_
            exact nx_seq ⟨(_, nx (nx (nx r 1) 1) 1), ⟨by simp only [nx]; omega, by simp only [nx]; omega⟩, Le.mk rfl (tlb rfl rfl rfl (tlb rfl rfl rfl (tlb rfl rfl rfl (tle rfl (rfl) rfl tln)))) (olk rfl (by exact obOk_cell) (olk rfl (by exact obOkNs) (olk rfl (by exact obOkS rfl) (olk rfl (by exact obOk_cell) oln)))) (hS_sub (a := ro r w) rfl)⟩
        · rintro ⟨a, r2⟩ ⟨g1, g2⟩
          simp only at g1 g2 ⊢
          have hf4 : Far 600005 r2 := by unfold Far at hp ⊢; omega
          have k5 := pk_bd hf4 (by omega) 4
          have k6 := k5.2 (by omega)
          all_goals refine awp_seq (awp_region (id := 6) ?_)
          all_goals refine awpOps_cons (op_mv rfl (Conv.of rfl) rfl) ?_
          all_goals refine awpOps_cons (op_mv rfl (Conv.of rfl) rfl) ?_
          all_goals refine awpOps_cons (op_callO fb47 (.cons rfl (Conv.of rfl) (.cons rfl (Conv.of rfl) (.nil _))) (pick_ct r2 4 (by unfold Far at hf4; omega)) (olsk rfl ols0) (oksk (by exact obOk_cell) oks0) (oksk (by exact obOk_cell) oks0) rfl (argOb rfl rfl rfl (argOk' rfl rfl argO0)) (fun o ho => by cases ho) rfl) ?_
          all_goals refine awpOps_cons (op_add rfl rfl rfl (by omega)) ?_
          all_goals refine awpOps_cons (op_build (.cons f50_0 rfl (Conv.of rfl) (.cons f50_1 rfl (Conv.of rfl) (.cons f50_2 rfl (Conv.of rfl) (.nil _)))) z50 rfl pl50 rfl) ?_
          all_goals refine awpOps_cons (op_st ty50 rfl rfl (Conv.of rfl) rfl) ?_
          all_goals refine awpOps_nil ?_
          refine awp_ret ?_
          repeat first | refine rt_seq ?_ | refine rt_block ?_
          refine ⟨_, _, res1 (ol := ro (nx r2 1) w) (.rc ty50 rfl rfl) (fun o ho => by cases ho) (olk rfl obOk_cell (olk rfl obOkNs oln)) (hS_keys rfl), _, nx r2 1, rfl, rfl, by simp only [nx]; omega, by simp only [nx]; omega⟩
      · refine awp_skip ?_
        exact nx_seq ⟨nx r 1, ⟨by simp only [nx]; omega, by simp only [nx]; omega⟩, Le.mk rfl (tlb rfl rfl rfl (tlb rfl rfl rfl (tlb rfl rfl rfl tln))) (olk rfl (by exact obOk_cell) (olk rfl (by exact obOkNs) (olk rfl (by exact obOkS rfl) (olk rfl (by exact obOk_cell) oln)))) (hS_sub (a := ro r w) rfl)⟩
    · refine awp_cond rfl (fun h2 => absurd h2 (by decide)) (fun h2 => ?_)
      refine awp_skip ?_
      exact nx_seq ⟨r, ⟨by omega, by omega⟩, Le.mk rfl (tlb rfl rfl rfl (tlb rfl rfl rfl (tlb rfl rfl rfl tln))) (olk rfl (by exact obOk_cell) (olk rfl (by exact obOkNs) (olk rfl (by exact obOkS rfl) (olk rfl (by exact obOk_cell) oln)))) (hS_sub (a := ro r w) rfl)⟩
  · rintro r2 ⟨g1, g2⟩
    have hf2 : Far 600001 r2 := by unfold Far at hp ⊢; omega
    have k5 := pk_bd hf2 (by omega) 8
    have k6 := k5.2 (by omega)
    have hf3 : Far 600002 (nx r2 1) := hf2.nx (by omega) (by omega)
    have hf4 : Far 600003 (nx (nx r2 1) 1) := hf3.nx (by omega) (by omega)
    have k7 := pk_bd hf3 (by omega) 4
    have k8 := k7.2 (by omega)
    all_goals refine awp_seq (awp_seq (awp_region (id := 7) ?_))
    all_goals refine awpOps_cons (op_mv rfl (Conv.of rfl) rfl) ?_
    all_goals refine awpOps_cons (op_callO fb47 (.cons rfl (Conv.of rfl) (.cons rfl (Conv.of rfl) (.nil _))) (pick_ct r2 8 (by unfold Far at hf2; omega)) (olsk rfl ols0) (oksk (by exact obOk_cell) oks0) (oksk (by exact obOk_cell) oks0) rfl (argOb rfl rfl rfl (argOk' rfl rfl argO0)) (fun o ho => by cases ho) rfl) ?_
    all_goals refine awpOps_nil ?_
    generalize pk r2 8 = k at k5 k6 ⊢
    refine awp_block ?_
    all_goals refine awp_seq (awp_seq (awp_region (id := 8) ?_))
    all_goals refine awpOps_cons (op_eql rfl rfl rfl) ?_
    all_goals refine awpOps_cons (op_as rfl (Conv.of rfl) rfl) ?_
    all_goals refine awpOps_nil ?_
    refine nx_seq ?_
    refine awp_to (s' := mkSt 64 [(0, .box 0 (IsLens.whole Rd)), (3, .box 5 (IsLens.whole WrldS)), (4, .box 6 (IsLens.whole Evt)), (36, .v k), (37, .v (decide (k = 0) || decide (k = 1)))] [(0, .cell (nx r2 1)), (1, .arr (w.nodes.map sN)), (5, .cell (fW w)), (6, .cell Evt.zero)]) ?_ ?_
    · refine awp_cond rfl (fun h2 => ?_) (fun h2 => ?_)
      · refine awp_skip ?_
        all_goals exact Le.mk rfl (tlb rfl rfl rfl (tlb rfl rfl rfl (tlb rfl rfl rfl (tle rfl (rfl) rfl (tle rfl (by (simp_all; try rfl)) rfl tln))))) (olk rfl (by exact obOk_cell) (olk rfl (by exact obOkNs) (olk rfl (by exact obOkS rfl) (olk rfl (by exact obOk_cell) oln)))) (hS_sub (a := ro r w) rfl)
      · all_goals refine awp_region (id := 9) ?_
        all_goals refine awpOps_cons (op_eql rfl rfl rfl) ?_
        all_goals refine awpOps_cons (op_as rfl (Conv.of rfl) rfl) ?_
        all_goals refine awpOps_nil ?_
        all_goals exact Le.mk rfl (tlb rfl rfl rfl (tlb rfl rfl rfl (tlb rfl rfl rfl (tle rfl (rfl) rfl (tle rfl (by (simp_all; try rfl)) rfl tln))))) (olk rfl (by exact obOk_cell) (olk rfl (by exact obOkNs) (olk rfl (by exact obOkS rfl) (olk rfl (by exact obOk_cell) oln)))) (hS_sub (a := ro r w) rfl)
    · refine awp_cond rfl (fun h2 => ?_) (fun h2 => ?_)
      · all_goals refine awp_seq (awp_region (id := 10) ?_)
        all_goals refine awpOps_cons (op_build (.cons f50_0 rfl (Conv.of rfl) (.nil _)) z50 rfl pl50 rfl) ?_
        all_goals refine awpOps_cons (op_st ty50 rfl rfl (Conv.of rfl) rfl) ?_
        all_goals refine awpOps_nil ?_
        refine awp_ret ?_
        repeat first | refine rt_seq ?_ | refine rt_block ?_
        refine ⟨_, _, res1 (ol := ro (nx r2 1) w) (.rc ty50 rfl rfl) (fun o ho => by cases ho) (olk rfl obOk_cell (olk rfl obOkNs oln)) (hS_keys rfl), _, nx r2 1, rfl, rfl, by simp only [nx]; omega, by simp only [nx]; omega⟩
      · all_goals refine awp_seq (awp_seq (awp_region (id := 11) ?_))
        all_goals refine awpOps_cons (op_eql rfl rfl rfl) ?_
        all_goals refine awpOps_cons (op_as rfl (Conv.of rfl) rfl) ?_
        all_goals refine awpOps_nil ?_
        refine nx_seq ?_
        refine awp_to (s' := mkSt 64 [(0, .box 0 (IsLens.whole Rd)), (3, .box 5 (IsLens.whole WrldS)), (4, .box 6 (IsLens.whole Evt)), (36, .v k), (41, .v (decide (k = 2) || (decide (k = 3) || decide (k = 4))))] [(0, .cell (nx r2 1)), (1, .arr (w.nodes.map sN)), (5, .cell (fW w)), (6, .cell Evt.zero)]) ?_ ?_
        · refine awp_cond rfl (fun h3 => ?_) (fun h3 => ?_)
          · refine awp_skip ?_
            all_goals exact Le.mk rfl (tlb rfl rfl rfl (tlb rfl rfl rfl (tlb rfl rfl rfl (tle rfl (rfl) rfl (tle rfl (by (simp_all; try rfl)) rfl tln))))) (olk rfl (by exact obOk_cell) (olk rfl (by exact obOkNs) (olk rfl (by exact obOkS rfl) (olk rfl (by exact obOk_cell) oln)))) (hS_sub (a := ro r w) rfl)
          · all_goals refine awp_seq (awp_region (id := 12) ?_)
            all_goals refine awpOps_cons (op_eql rfl rfl rfl) ?_
            all_goals refine awpOps_cons (op_as rfl (Conv.of rfl) rfl) ?_
            all_goals refine awpOps_nil ?_
            refine awp_cond rfl (fun h4 => ?_) (fun h4 => ?_)
            · refine awp_skip ?_
              all_goals exact Le.mk rfl (tlb rfl rfl rfl (tlb rfl rfl rfl (tlb rfl rfl rfl (tle rfl (rfl) rfl (tle rfl (by (simp_all; try rfl)) rfl tln))))) (olk rfl (by exact obOk_cell) (olk rfl (by exact obOkNs) (olk rfl (by exact obOkS rfl) (olk rfl (by exact obOk_cell) oln)))) (hS_sub (a := ro r w) rfl)
            · all_goals refine awp_region (id := 13) ?_
              all_goals refine awpOps_cons (op_eql rfl rfl rfl) ?_
              all_goals refine awpOps_cons (op_as rfl (Conv.of rfl) rfl) ?_
              all_goals refine awpOps_nil ?_
              all_goals exact Le.mk rfl (tlb rfl rfl rfl (tlb rfl rfl rfl (tlb rfl rfl rfl (tle rfl (rfl) rfl (tle rfl (by (simp_all; try rfl)) rfl tln))))) (olk rfl (by exact obOk_cell) (olk rfl (by exact obOkNs) (olk rfl (by exact obOkS rfl) (olk rfl (by exact obOk_cell) oln)))) (hS_sub (a := ro r w) rfl)
        · refine awp_cond rfl (fun h3 => ?_) (fun h3 => ?_)
          · all_goals refine awp_seq (awp_region (id := 14) ?_)
            all_goals refine awpOps_cons (op_fab f29_0_WrldS rfl rfl) ?_
            all_goals refine awpOps_cons (op_ld ty3 rfl rfl rfl) ?_
            all_goals refine awpOps_cons (op_max rfl rfl rfl) ?_
            all_goals refine awpOps_cons (op_call fb83 (.cons rfl (Conv.of rfl) (.nil _)) (l3Leader_ct _ (by show -1000 ≤ max w.epoch 1 ∧ max w.epoch 1 ≤ 1000000; omega)) (argOk rfl rfl argOk0) rfl rfl) ?_
            all_goals refine awpOps_cons (op_mv rfl (Conv.of rfl) rfl) ?_
            all_goals refine awpOps_cons (op_callO fb88 (.cons rfl (Conv.of rfl) (.nil _)) (l71Pay_ct (nx r2 1) (hf3.weak (by omega))) (olsk rfl ols0) (oksk (by exact obOk_cell) oks0) (oksk (by exact obOk_cell) oks0) rfl (argOb rfl rfl rfl argO0) (fun o ho => by cases ho) rfl) ?_
            all_goals refine awpOps_cons (op_build (.cons f50_0 rfl (Conv.of rfl) (.cons f50_1 rfl (Conv.of rfl) (.cons f50_3 rfl (Conv.of rfl) (.nil _)))) z50 rfl pl50 rfl) ?_
            all_goals refine awpOps_cons (op_st ty50 rfl rfl (Conv.of rfl) rfl) ?_
            all_goals refine awpOps_nil ?_
            refine awp_ret ?_
            repeat first | refine rt_seq ?_ | refine rt_block ?_
            refine ⟨_, _, res1 (ol := ro (nx (nx r2 1) 3) w) (.rc ty50 rfl rfl) (fun o ho => by cases ho) (olk rfl obOk_cell (olk rfl obOkNs oln)) (hS_keys rfl), _, nx (nx r2 1) 3, rfl, rfl, by simp only [nx]; omega, by simp only [nx]; omega⟩
          · all_goals refine awp_seq (awp_region (id := 15) ?_)
            all_goals refine awpOps_cons (op_eql rfl rfl rfl) ?_
            all_goals refine awpOps_cons (op_as rfl (Conv.of rfl) rfl) ?_
            all_goals refine awpOps_nil ?_
            refine awp_cond rfl (fun h4 => ?_) (fun h4 => ?_)
            · all_goals refine awp_seq (awp_region (id := 16) ?_)
              all_goals refine awpOps_cons (op_mv rfl (Conv.of rfl) rfl) ?_
              all_goals refine awpOps_cons (op_callO fb47 (.cons rfl (Conv.of rfl) (.cons rfl (Conv.of rfl) (.nil _))) (pick_ct (nx r2 1) 4 (by unfold Far at hf3; omega)) (olsk rfl ols0) (oksk (by exact obOk_cell) oks0) (oksk (by exact obOk_cell) oks0) rfl (argOb rfl rfl rfl (argOk' rfl rfl argO0)) (fun o ho => by cases ho) rfl) ?_
              all_goals refine awpOps_cons (op_add rfl rfl rfl (by omega)) ?_
              all_goals refine awpOps_cons (op_mv rfl (Conv.of rfl) rfl) ?_
              all_goals refine awpOps_cons (op_callO fb88 (.cons rfl (Conv.of rfl) (.nil _)) (l71Pay_ct (nx (nx r2 1) 1) (hf4.weak (by omega))) (olsk rfl ols0) (oksk (by exact obOk_cell) oks0) (oksk (by exact obOk_cell) oks0) rfl (argOb rfl rfl rfl argO0) (fun o ho => by cases ho) rfl) ?_
              all_goals refine awpOps_cons (op_build (.cons f50_0 rfl (Conv.of rfl) (.cons f50_1 rfl (Conv.of rfl) (.cons f50_3 rfl (Conv.of rfl) (.nil _)))) z50 rfl pl50 rfl) ?_
              all_goals refine awpOps_cons (op_st ty50 rfl rfl (Conv.of rfl) rfl) ?_
              all_goals refine awpOps_nil ?_
              refine awp_ret ?_
              repeat first | refine rt_seq ?_ | refine rt_block ?_
              refine ⟨_, _, res1 (ol := ro (nx (nx (nx r2 1) 1) 3) w) (.rc ty50 rfl rfl) (fun o ho => by cases ho) (olk rfl obOk_cell (olk rfl obOkNs oln)) (hS_keys rfl), _, nx (nx (nx r2 1) 1) 3, rfl, rfl, by simp only [nx]; omega, by simp only [nx]; omega⟩
            · refine awp_skip ?_
              repeat first | refine nx_seq ?_ | refine nx_block ?_
              all_goals refine awp_seq (awp_region (id := 17) ?_)
              all_goals refine awpOps_cons (op_mv rfl (Conv.of rfl) rfl) ?_
              all_goals refine awpOps_cons (op_ldd ty29_WrldS rfl rfl rfl) ?_
              refine awpOps_callE (ι := Vote × Rd) (ro (nx r2 1) w) (fun i => .v i.1) (fun i => ro i.2 w) (fun i => i.1.chain.length ≤ 100 ∧ (nx r2 1).p ≤ i.2.p ∧ i.2.p ≤ (nx r2 1).p + 100) rfl fb141 (.cons rfl (Conv.of rfl) (.cons rfl (Conv.of rfl) (.nil _))) (l72Forge_ct (nx r2 1) w hw (hf3.weak (by omega))) (fun r h' ⟨v, r', e1, e2, e3, e4, e5⟩ => ⟨(v, r'), e1, e2, e3, e4, e5⟩) (olsk rfl (olsk rfl ols0)) (oksk obOk_cell (oksk obOkNs oks0)) (argOb rfl rfl rfl (argOb rfl rfl rfl argO0)) rfl (fun i => rfl) (fun i => oksk obOk_cell (oksk obOkNs oks0)) (fun i o ho => by cases ho) ?_
              rintro ⟨v, r3⟩ ⟨q1, q2, q3⟩
              simp only [nx] at q1 q2 q3 ⊢
              all_goals refine awpOps_cons (op_build (.cons f50_0 rfl (Conv.of rfl) (.cons f50_4 rfl (Conv.of rfl) (.nil _))) z50 rfl pl50 rfl) ?_
              all_goals refine awpOps_cons (op_st ty50 rfl rfl (Conv.of rfl) rfl) ?_
              all_goals refine awpOps_nil ?_
              refine awp_ret ?_
              repeat first | refine rt_seq ?_ | refine rt_block ?_
              refine ⟨_, _, res1 (ol := ro r3 w) (.rc ty50 rfl rfl) (fun o ho => by cases ho) (olk rfl obOk_cell (olk rfl obOkNs oln)) (hS_keys rfl), _, r3, rfl, rfl, by omega, by omega⟩
end Go.Proofs.YtompnmkpgffhkaaGreat

/- The reference: draws of plays. -/
set_option linter.unusedVariables false
set_option linter.unusedSimpArgs false
namespace Go.Proofs.YtompnmkpgffhkaaGreat
open Go Go.Wt
set_option maxHeartbeats 8000000 in
theorem l72Play_ct (r : Rd) (hp : Far 1000 r) : Ct Tryz.prog 46 [.box 0 (IsLens.whole Rd)] (obs [(0, .cell r)]) (fun r1 h1 => ∃ (bad : Int) (evs : List Evt) (w : Wrld) (r' : Rd), r1 = .tup [.v bad, .v (OList.mk evs true), .v (sW w)] ∧ h1 = obs (ro r' w) ∧ evs.length ≤ 100 ∧ within bad 0 4 = true ∧ FineX w ∧ Far 20000 r') := by
  have hq0 := pk_bd hp (by omega) 5
  have hq0' := hq0.2 (by omega)
  have hf1 : Far 1001 (nx r 1) := hp.nx (by omega) (by omega)
  have hq1 := pk_bd hf1 (by omega) 5
  have hq1' := hq1.2 (by omega)
  have hf2 : Far 1002 (nx (nx r 1) 1) := hf1.nx (by omega) (by omega)
  refine Ct.intro Tryz.func46 rfl rfl ?_
  all_goals refine awp_seq (awp_region (id := 0) ?_)
  all_goals refine awpOps_cons (op_as rfl (Conv.of rfl) rfl) ?_
  all_goals refine awpOps_cons (op_as rfl (Conv.of rfl) rfl) ?_
  all_goals refine awpOps_cons (op_alloc (o := 5) z29_WrldS rfl rfl) ?_
  all_goals refine awpOps_nil ?_
  all_goals refine awp_seq (awp_region (id := 1) ?_)
  all_goals refine awpOps_cons (op_mv rfl (Conv.of rfl) rfl) ?_
  all_goals refine awpOps_cons (op_callO fb47 (.cons rfl (Conv.of rfl) (.cons rfl (Conv.of rfl) (.nil _))) (pick_ct r 5 (by unfold Far at hp; omega)) (olsk rfl ols0) (oksk (by exact obOk_cell) oks0) (oksk (by exact obOk_cell) oks0) rfl (argOb rfl rfl rfl (argOk' rfl rfl argO0)) (fun o ho => by cases ho) rfl) ?_
  all_goals refine awpOps_cons (op_as rfl (Conv.of rfl) rfl) ?_
  all_goals refine awpOps_nil ?_
  have hb : within (pk r 5) 0 4 = true := by simp [within]; omega
  generalize pk r 5 = bad at hq0 hq0' hb ⊢
  all_goals refine awp_seq (awp_region (id := 2) ?_)
  all_goals refine awpOps_cons (op_mv rfl (Conv.of rfl) rfl) ?_
  refine awpOps_callO [] rfl fb50 (.cons rfl (Conv.of rfl) (.nil _)) (sWorldNew_w bad hb) ols0 oks0 (argOk' rfl rfl argO0) rfl ?_
  rintro r_ h' ⟨rfl, rfl⟩
  refine ⟨so (newW bad), rfl, (fun o ho => by cases ho), fun o ho _ => ?_, oksk obOkNs oks0, fun o ho => ?_, ?_⟩
  · have : o = 1 := by simpa [keys, lk0] using ho
    subst this; rfl
  · have : o = 1 := by simpa using (show o ∈ [1] from ho)
    subst this; rfl
  all_goals refine awpOps_cons (op_mvo rfl rfl rfl rfl) ?_
  all_goals refine awpOps_cons (op_extm rfl rfl rfl rfl) ?_
  all_goals refine awpOps_cons (op_ext rfl rfl rfl) ?_
  all_goals refine awpOps_cons (op_alloc (o := 6) z29_WrldS rfl rfl) ?_
  all_goals refine awpOps_cons (op_stm ty29_WrldS rfl rfl rfl) ?_
  all_goals refine awpOps_cons (op_as rfl (Conv.of rfl) rfl) ?_
  all_goals refine awpOps_nil ?_
  all_goals refine awp_seq (awp_region (id := 3) ?_)
  all_goals refine awpOps_cons (op_bsl sl23 z50 (.nil _) rfl (by decide) rfl) ?_
  all_goals refine awpOps_cons (op_asl rfl rfl rfl rfl) ?_
  all_goals refine awpOps_nil ?_
  all_goals refine awp_seq (awp_seq (awp_region (id := 4) ?_))
  all_goals refine awpOps_cons (op_mv rfl (Conv.of rfl) rfl) ?_
  all_goals refine awpOps_cons (op_callO fb47 (.cons rfl (Conv.of rfl) (.cons rfl (Conv.of rfl) (.nil _))) (pick_ct (nx r 1) 5 (by unfold Far at hf1; omega)) (olsk rfl ols0) (oksk (by exact obOk_cell) oks0) (oksk (by exact obOk_cell) oks0) rfl (argOb rfl rfl rfl (argOk' rfl rfl argO0)) (fun o ho => by cases ho) rfl) ?_
  all_goals refine awpOps_cons (op_as rfl (Conv.of rfl) rfl) ?_
  all_goals refine awpOps_nil ?_
  generalize pk (nx r 1) 5 = n0 at hq1 hq1' ⊢
  generalize nx (nx r 1) 1 = r0 at hf2 ⊢
  refine awp_block ?_
  refine awp_loop' (fun n_ s => ∃ (k : Nat), ∃ (evs : List Evt), ∃ (w : Wrld), ∃ (r1 : Rd), ∃ (hk : n_ + k = n0.toNat), ∃ (hw : FineX w), ∃ (he : evs.length ≤ 10 * k), ∃ (hf : Far (1002 + 3 * (k : Int)) r1), s = mkSt 120 [(0, .box 0 (IsLens.whole Rd)), (4, .box 5 (IsLens.whole WrldS)), (5, .v bad), (6, .box 6 (IsLens.whole WrldS)), (8, .v (OList.mk evs true)), (9, .v (n0 - (k : Int)))] [(0, .cell r1), (1, .arr (Wrld.nodes w |>.map sN)), (5, .cell WrldS.zero), (6, .cell (sW w))]) (n0.toNat) ⟨0, [], newW bad, r0, by omega, newW_ok bad, by simp, by simpa using hf2, rfl⟩ (Le.mk rfl (tlb rfl rfl rfl (tlb rfl rfl rfl (tle rfl (rfl) rfl (tlb rfl rfl rfl (tle rfl (rfl) rfl (tle rfl (by (show AV.v _ = AV.v _; congr 1; omega)) rfl tln)))))) (olk rfl (by exact obOk_cell) (olk rfl (by exact obOkNs) (olk rfl (by exact obOkS0) (olk rfl (by exact obOkS rfl) oln)))) (hS_sub (a := [(0, .cell r)]) rfl)) ?_
  rintro n_ s ⟨k, evs, w, r1, hk, hw, he, hf, rfl⟩
  have hk4 : k ≤ 4 := by omega
  have hep := hw.ep
  all_goals refine awp_seq (awp_seq (awp_region (id := 5) ?_))
  all_goals refine awpOps_cons (op_mv rfl (Conv.of rfl) rfl) ?_
  all_goals refine awpOps_cons (op_gtr rfl rfl rfl) ?_
  all_goals refine awpOps_nil ?_
  refine awp_cond rfl (fun h => ?_) (fun h => ?_)
  · have hlt : (k : Int) < n0 := by have := of_decide_eq_true h; omega
    refine awp_skip ?_
    refine awp_seq (awp_block ?_)
    all_goals refine awp_seq (awp_seq (awp_region (id := 7) ?_))
    all_goals refine awpOps_cons (op_build (.cons f50_0 rfl (Conv.of rfl) (.nil _)) z50 rfl pl50 rfl) ?_
    all_goals refine awpOps_cons (op_fab f29_0_WrldS rfl rfl) ?_
    all_goals refine awpOps_cons (op_ld ty3 rfl rfl rfl) ?_
    all_goals refine awpOps_cons (op_add rfl rfl rfl (by (simp only [sW]; omega))) ?_
    all_goals refine awpOps_cons (op_call fb83 (.cons rfl (Conv.of rfl) (.nil _)) (l3Leader_ct _ (by simp only [sW]; omega)) (argOk rfl rfl argOk0) rfl rfl) ?_
    all_goals refine awpOps_cons (op_mv rfl (Conv.of rfl) rfl) ?_
    all_goals refine awpOps_cons (op_callO fb88 (.cons rfl (Conv.of rfl) (.nil _)) (l71Pay_ct r1 (hf.weak (by omega))) (olsk rfl ols0) (oksk (by exact obOk_cell) oks0) (oksk (by exact obOk_cell) oks0) rfl (argOb rfl rfl rfl argO0) (fun o ho => by cases ho) rfl) ?_
    all_goals refine awpOps_cons (op_build (.cons f50_0 rfl (Conv.of rfl) (.cons f50_1 rfl (Conv.of rfl) (.cons f50_3 rfl (Conv.of rfl) (.nil _)))) z50 rfl pl50 rfl) ?_
    all_goals refine awpOps_cons (op_bsl sl23 z50 (.cons rfl (Conv.of rfl) (.cons rfl (Conv.of rfl) (.nil _))) rfl (by decide) rfl) ?_
    all_goals refine awpOps_cons (op_len sl23 rfl rfl) ?_
    all_goals refine awpOps_cons (op_mv rfl (Conv.of rfl) rfl) ?_
    all_goals refine awpOps_nil ?_
    have hf3 : Far (1005 + 3 * (k : Int)) (nx r1 3) := hf.nx (by omega) (by omega)
    generalize hes : ([{ kind := 1, a := 0, b := 0, pay := Pay.zero, vote := Vote.zero }, { kind := 2, a := leadS ((sW w).epoch + 1), b := 0, pay := payV r1, vote := Vote.zero }] : List Evt) = es
    have hes2 : es.length = 2 := by rw [← hes]; rfl
    generalize nx r1 3 = r2 at hf3 ⊢
    refine nx_seq (awp_to_ex (ι := List Evt × Wrld) (fun i => mkSt 120 [(0, .box 0 (IsLens.whole Rd)), (4, .box 5 (IsLens.whole WrldS)), (5, .v bad), (6, .box 6 (IsLens.whole WrldS)), (8, .v (OList.mk i.1 true)), (9, .v (n0 - (k : Int)))] [(0, .cell r2), (1, .arr (Wrld.nodes i.2 |>.map sN)), (5, .cell WrldS.zero), (6, .cell (sW i.2))]) (fun i => FineX i.2 ∧ i.1.length ≤ 10 * k + 2) ?_ ?_)
    · refine awp_block ?_
      refine awp_loop' (fun n_ s => ∃ (j : Nat), ∃ (evs2 : List Evt), ∃ (w2 : Wrld), ∃ (hj : n_ + j = 2), ∃ (hw2 : FineX w2), ∃ (he2 : evs2.length ≤ 10 * k + j), s = mkSt 120 [(0, .box 0 (IsLens.whole Rd)), (4, .box 5 (IsLens.whole WrldS)), (5, .v bad), (6, .box 6 (IsLens.whole WrldS)), (8, .v (OList.mk evs2 true)), (9, .v (n0 - (k : Int))), (39, .v (OList.mk es true)), (40, .v (2 : Int)), (41, .v (j : Int))] [(0, .cell r2), (1, .arr (Wrld.nodes w2 |>.map sN)), (5, .cell WrldS.zero), (6, .cell (sW w2))]) (2) ⟨0, evs, w, by omega, hw, by omega, rfl⟩ (Le.mk rfl (tlb rfl rfl rfl (tlb rfl rfl rfl (tle rfl (rfl) rfl (tlb rfl rfl rfl (tle rfl (rfl) rfl (tle rfl (rfl) rfl (tle rfl (by (rw [← hes]; rfl)) rfl (tle rfl (rfl) rfl (tle rfl (rfl) rfl tln))))))))) (olk rfl (by exact obOk_cell) (olk rfl (by exact obOkNs) (olk rfl (by exact obOkS0) (olk rfl (by exact obOkS rfl) oln)))) (hS_sub (a := [(0, .cell r)]) rfl)) ?_
      rintro n_ s ⟨j, evs2, w2, hj, hw2, he2, rfl⟩
      all_goals refine awp_seq (awp_region (id := 8) ?_)
      all_goals refine awpOps_cons (op_lss rfl rfl rfl) ?_
      all_goals refine awpOps_nil ?_
      refine awp_seq (awp_cond rfl (fun h2 => ?_) (fun h2 => ?_))
      · have hj2 : j < 2 := by have := of_decide_eq_true h2; omega
        have hx : es[j]? = some (es[j]'(by omega)) := List.getElem?_eq_getElem (by omega)
        generalize hee : es[j]'(by omega) = e at hx
        refine awp_skip ?_
        refine awp_seq (awp_block ?_)
        all_goals refine awp_seq (awp_region (id := 9) ?_)
        all_goals refine awpOps_cons (op_ix sl23 rfl rfl rfl (by omega) hx) ?_
        all_goals refine awpOps_cons (op_ldr ty50 rfl rfl) ?_
        all_goals refine awpOps_cons (op_alloc (o := 7) z50 rfl rfl) ?_
        all_goals refine awpOps_cons (op_st ty50 rfl rfl (Conv.of rfl) rfl) ?_
        all_goals refine awpOps_nil ?_
        all_goals refine awp_seq (awp_region (id := 10) ?_)
        all_goals refine awpOps_cons (op_mvl rfl rfl rfl rfl) ?_
        all_goals refine awpOps_cons (op_ld ty50 rfl rfl rfl) ?_
        all_goals refine awpOps_cons (op_bsl sl23 z50 (.cons rfl (Conv.of rfl) (.nil _)) rfl (by decide) rfl) ?_
        all_goals refine awpOps_cons (op_app sl23 z50 ul23 rfl rfl rfl (by (simp; omega)) (by (simp; omega)) rfl rfl) ?_
        all_goals refine awpOps_cons (op_asl rfl rfl rfl rfl) ?_
        all_goals refine awpOps_nil ?_
        all_goals refine awp_region (id := 11) ?_
        all_goals refine awpOps_cons (op_ldm ty29_WrldS rfl rfl rfl) ?_
        all_goals refine awpOps_cons (op_ld ty50 rfl rfl rfl) ?_
        all_goals refine awpOps_cons (op_callM (s := 49) (pre := []) fb51 (.nil _) rfl (.cons rfl (Conv.of rfl) (.nil _)) (l21Do_ct w2 _ hw2) (olsk rfl ols0) (oksk (by exact obOkNs) oks0) (oksk (by exact obOkNs) oks0) rfl argO0 (argOk' rfl rfl argO0) (inOne rfl) (inOne rfl) rfl) ?_
        all_goals refine awpOps_cons (op_stm ty29_WrldS rfl rfl rfl) ?_
        all_goals refine awpOps_nil ?_
        all_goals refine awp_region (id := 12) ?_
        all_goals refine awpOps_cons (op_add rfl rfl rfl (by omega)) ?_
        all_goals refine awpOps_cons (op_mv rfl (Conv.of rfl) rfl) ?_
        all_goals refine awpOps_nil ?_
        repeat first | refine nx_seq ?_ | refine nx_block ?_
        exact ⟨n_ - 1, _, by omega, ⟨j + 1, evs2 ++ [e], doF w2 e, by omega, doF_ok _ hw2, by simp; omega, rfl⟩, Le.mk rfl (tlb rfl rfl rfl (tlb rfl rfl rfl (tle rfl (rfl) rfl (tlb rfl rfl rfl (tle rfl (rfl) rfl (tle rfl (rfl) rfl (tle rfl (by rfl) rfl (tle rfl (rfl) rfl (tle rfl (rfl) rfl tln))))))))) (olk rfl (by exact obOk_cell) (olk rfl (by exact obOkNs) (olk rfl (by exact obOkS0) (olk rfl (by exact obOkS rfl) oln)))) (hS_sub (a := [(0, .cell r)]) rfl)⟩
      · refine awp_exit ?_
        repeat refine ex_seq ?_
        refine ex_block ?_
        exact nx_seq ⟨(evs2, w2), ⟨hw2, by simp only; omega⟩, Le.mk rfl (tlb rfl rfl rfl (tlb rfl rfl rfl (tle rfl (rfl) rfl (tlb rfl rfl rfl (tle rfl (rfl) rfl (tle rfl (rfl) rfl tln)))))) (olk rfl (by exact obOk_cell) (olk rfl (by exact obOkNs) (olk rfl (by exact obOkS0) (olk rfl (by exact obOkS rfl) oln)))) (hS_sub (a := [(0, .cell r)]) rfl)⟩
    rintro ⟨evs3, w3⟩ ⟨hw3, he3⟩
    simp only at hw3 he3 ⊢
    refine awp_seq_ex (ι := List Evt × Wrld) (fun i => mkSt 120 [(0, .box 0 (IsLens.whole Rd)), (4, .box 5 (IsLens.whole WrldS)), (5, .v bad), (6, .box 6 (IsLens.whole WrldS)), (8, .v (OList.mk i.1 true)), (9, .v (n0 - (k : Int)))] [(0, .cell r2), (1, .arr (Wrld.nodes i.2 |>.map sN)), (5, .cell WrldS.zero), (6, .cell (sW i.2))]) (fun i => FineX i.2 ∧ i.1.length ≤ 10 * k + 6) ?_ ?_
    · all_goals refine awp_seq (awp_region (id := 13) ?_)
      all_goals refine awpOps_cons (op_as rfl (Conv.of rfl) rfl) ?_
      all_goals refine awpOps_nil ?_
      refine awp_block ?_
      refine awp_loop' (fun n_ s => ∃ (j : Nat), ∃ (evs4 : List Evt), ∃ (w4 : Wrld), ∃ (hj : n_ + j = 4), ∃ (hw4 : FineX w4), ∃ (he4 : evs4.length ≤ 10 * k + 2 + j), s = mkSt 120 [(0, .box 0 (IsLens.whole Rd)), (4, .box 5 (IsLens.whole WrldS)), (5, .v bad), (6, .box 6 (IsLens.whole WrldS)), (8, .v (OList.mk evs4 true)), (9, .v (n0 - (k : Int))), (12, .v ((j : Int) + 1))] [(0, .cell r2), (1, .arr (Wrld.nodes w4 |>.map sN)), (5, .cell WrldS.zero), (6, .cell (sW w4))]) (4) ⟨0, evs3, w3, by omega, hw3, by omega, rfl⟩ (Le.mk rfl (tlb rfl rfl rfl (tlb rfl rfl rfl (tle rfl (rfl) rfl (tlb rfl rfl rfl (tle rfl (rfl) rfl (tle rfl (rfl) rfl (tle rfl (by rfl) rfl tln))))))) (olk rfl (by exact obOk_cell) (olk rfl (by exact obOkNs) (olk rfl (by exact obOkS0) (olk rfl (by exact obOkS rfl) oln)))) (hS_sub (a := [(0, .cell r)]) rfl)) ?_
      rintro n_ s ⟨j, evs4, w4, hj, hw4, he4, rfl⟩
      have hll := hw4.ll
      all_goals refine awp_seq (awp_seq (awp_region (id := 14) ?_))
      all_goals refine awpOps_cons (op_mv rfl (Conv.of rfl) rfl) ?_
      all_goals refine awpOps_cons (op_leq rfl rfl rfl) ?_
      all_goals refine awpOps_cons (op_mv rfl (Conv.of rfl) rfl) ?_
      all_goals refine g_split (t := 55) rfl (fun h => ?_) (fun h => ?_)
      all_goals first | refine awpOps_cons (g_off rfl rfl rfl rfl rfl) ?_ | refine awpOps_cons (g_on rfl rfl rfl (op_fab f29_2_WrldS rfl rfl)) ?_
      all_goals first | refine awpOps_cons (g_off rfl rfl rfl rfl rfl) ?_ | refine awpOps_cons (g_on rfl rfl rfl (op_ldl ty27_OListVote rfl rfl rfl)) ?_
      all_goals first | refine awpOps_cons (g_off rfl rfl rfl rfl rfl) ?_ | refine awpOps_cons (g_on rfl rfl rfl (op_len sl27 rfl rfl)) ?_
      all_goals first | refine awpOps_cons (g_off rfl rfl rfl rfl rfl) ?_ | refine awpOps_cons (g_on rfl rfl rfl (op_gtr rfl rfl rfl)) ?_
      all_goals refine awpOps_cons (op_pick rfl rfl rfl rfl) ?_
      all_goals refine awpOps_nil ?_
      · refine awp_cond rfl (fun h2 => ?_) (fun h2 => ?_)
        · have hj4 : j < 4 := by have := of_decide_eq_true h; omega
          refine awp_skip ?_
          refine awp_seq (awp_block ?_)
          all_goals refine awp_seq (awp_region (id := 16) ?_)
          all_goals refine awpOps_cons (op_fab f29_2_WrldS rfl rfl) ?_
          all_goals refine awpOps_cons (op_ldl ty27_OListVote rfl rfl rfl) ?_
          all_goals refine awpOps_cons (op_len sl27 rfl rfl) ?_
          all_goals refine awpOps_cons (op_sub rfl rfl rfl (by (simp only [sW]; omega))) ?_
          all_goals refine awpOps_cons (op_mv rfl (Conv.of rfl) rfl) ?_
          all_goals refine awpOps_cons (op_build (.cons f50_0 rfl (Conv.of rfl) (.cons f50_1 rfl (Conv.of rfl) (.cons f50_2 rfl (Conv.of rfl) (.nil _)))) z50 rfl pl50 rfl) ?_
          all_goals refine awpOps_cons (op_alloc (o := 8) z50 rfl rfl) ?_
          all_goals refine awpOps_cons (op_st ty50 rfl rfl (Conv.of rfl) rfl) ?_
          all_goals refine awpOps_nil ?_
          all_goals refine awp_seq (awp_region (id := 17) ?_)
          all_goals refine awpOps_cons (op_mvl rfl rfl rfl rfl) ?_
          all_goals refine awpOps_cons (op_ld ty50 rfl rfl rfl) ?_
          all_goals refine awpOps_cons (op_bsl sl23 z50 (.cons rfl (Conv.of rfl) (.nil _)) rfl (by decide) rfl) ?_
          all_goals refine awpOps_cons (op_app sl23 z50 ul23 rfl rfl rfl (by (simp; omega)) (by (simp; omega)) rfl rfl) ?_
          all_goals refine awpOps_cons (op_asl rfl rfl rfl rfl) ?_
          all_goals refine awpOps_nil ?_
          all_goals refine awp_region (id := 18) ?_
          all_goals refine awpOps_cons (op_ldm ty29_WrldS rfl rfl rfl) ?_
          all_goals refine awpOps_cons (op_ld ty50 rfl rfl rfl) ?_
          all_goals refine awpOps_cons (op_callM (s := 73) (pre := []) fb51 (.nil _) rfl (.cons rfl (Conv.of rfl) (.nil _)) (l21Do_ct w4 _ hw4) (olsk rfl ols0) (oksk (by exact obOkNs) oks0) (oksk (by exact obOkNs) oks0) rfl argO0 (argOk' rfl rfl argO0) (inOne rfl) (inOne rfl) rfl) ?_
          all_goals refine awpOps_cons (op_stm ty29_WrldS rfl rfl rfl) ?_
          all_goals refine awpOps_nil ?_
          all_goals refine awp_region (id := 15) ?_
          all_goals refine awpOps_cons (op_mv rfl (Conv.of rfl) rfl) ?_
          all_goals refine awpOps_cons (op_add rfl rfl rfl (by omega)) ?_
          all_goals refine awpOps_cons (op_as rfl (Conv.of rfl) rfl) ?_
          all_goals refine awpOps_nil ?_
          repeat first | refine nx_seq ?_ | refine nx_block ?_
          exact ⟨n_ - 1, _, by omega, ⟨j + 1, _, _, by omega, doF_ok _ hw4, by simp; omega, rfl⟩, Le.mk rfl (tlb rfl rfl rfl (tlb rfl rfl rfl (tle rfl (rfl) rfl (tlb rfl rfl rfl (tle rfl (rfl) rfl (tle rfl (rfl) rfl (tle rfl (by rfl) rfl tln))))))) (olk rfl (by exact obOk_cell) (olk rfl (by exact obOkNs) (olk rfl (by exact obOkS0) (olk rfl (by exact obOkS rfl) oln)))) (hS_sub (a := [(0, .cell r)]) rfl)⟩
        · refine awp_exit ?_
          repeat refine ex_seq ?_
          refine ex_block ?_
          exact nx_seq ⟨(evs4, w4), ⟨hw4, by simp only; omega⟩, Le.mk rfl (tlb rfl rfl rfl (tlb rfl rfl rfl (tle rfl (rfl) rfl (tlb rfl rfl rfl (tle rfl (rfl) rfl (tle rfl (rfl) rfl tln)))))) (olk rfl (by exact obOk_cell) (olk rfl (by exact obOkNs) (olk rfl (by exact obOkS0) (olk rfl (by exact obOkS rfl) oln)))) (hS_sub (a := [(0, .cell r)]) rfl)⟩
      · refine awp_cond rfl (fun h2 => absurd h2 (by decide)) (fun h2 => ?_)
        refine awp_exit ?_
        repeat refine ex_seq ?_
        refine ex_block ?_
        exact nx_seq ⟨(evs4, w4), ⟨hw4, by simp only; omega⟩, Le.mk rfl (tlb rfl rfl rfl (tlb rfl rfl rfl (tle rfl (rfl) rfl (tlb rfl rfl rfl (tle rfl (rfl) rfl (tle rfl (rfl) rfl tln)))))) (olk rfl (by exact obOk_cell) (olk rfl (by exact obOkNs) (olk rfl (by exact obOkS0) (olk rfl (by exact obOkS rfl) oln)))) (hS_sub (a := [(0, .cell r)]) rfl)⟩
    rintro ⟨evs5, w5⟩ ⟨hw5, he5⟩
    simp only at hw5 he5 ⊢
    refine awp_toB_ex (ι := List Evt × Wrld) (fun i => mkSt 120 [(0, .box 0 (IsLens.whole Rd)), (4, .box 5 (IsLens.whole WrldS)), (5, .v bad), (6, .box 6 (IsLens.whole WrldS)), (8, .v (OList.mk i.1 true)), (9, .v (n0 - (k : Int)))] [(0, .cell r2), (1, .arr (Wrld.nodes i.2 |>.map sN)), (5, .cell WrldS.zero), (6, .cell (sW i.2))]) (fun i => FineX i.2 ∧ i.1.length ≤ 10 * k + 10) ?_ ?_
    · all_goals refine awp_seq (awp_region (id := 19) ?_)
      all_goals refine awpOps_cons (op_as rfl (Conv.of rfl) rfl) ?_
      all_goals refine awpOps_nil ?_
      refine awp_block ?_
      refine awp_loop' (fun n_ s => ∃ (j : Nat), ∃ (evs6 : List Evt), ∃ (w6 : Wrld), ∃ (hj : n_ + j = 4), ∃ (hw6 : FineX w6), ∃ (he6 : evs6.length ≤ 10 * k + 6 + j), s = mkSt 120 [(0, .box 0 (IsLens.whole Rd)), (4, .box 5 (IsLens.whole WrldS)), (5, .v bad), (6, .box 6 (IsLens.whole WrldS)), (8, .v (OList.mk evs6 true)), (9, .v (n0 - (k : Int))), (14, .v ((j : Int) + 1))] [(0, .cell r2), (1, .arr (Wrld.nodes w6 |>.map sN)), (5, .cell WrldS.zero), (6, .cell (sW w6))]) (4) ⟨0, evs5, w5, by omega, hw5, by omega, rfl⟩ (Le.mk rfl (tlb rfl rfl rfl (tlb rfl rfl rfl (tle rfl (rfl) rfl (tlb rfl rfl rfl (tle rfl (rfl) rfl (tle rfl (rfl) rfl (tle rfl (by rfl) rfl tln))))))) (olk rfl (by exact obOk_cell) (olk rfl (by exact obOkNs) (olk rfl (by exact obOkS0) (olk rfl (by exact obOkS rfl) oln)))) (hS_sub (a := [(0, .cell r)]) rfl)) ?_
      rintro n_ s ⟨j, evs6, w6, hj, hw6, he6, rfl⟩
      have hll := hw6.ll
      all_goals refine awp_seq (awp_seq (awp_region (id := 20) ?_))
      all_goals refine awpOps_cons (op_mv rfl (Conv.of rfl) rfl) ?_
      all_goals refine awpOps_cons (op_leq rfl rfl rfl) ?_
      all_goals refine awpOps_cons (op_mv rfl (Conv.of rfl) rfl) ?_
      all_goals refine g_split (t := 78) rfl (fun h => ?_) (fun h => ?_)
      all_goals first | refine awpOps_cons (g_off rfl rfl rfl rfl rfl) ?_ | refine awpOps_cons (g_on rfl rfl rfl (op_fab f29_2_WrldS rfl rfl)) ?_
      all_goals first | refine awpOps_cons (g_off rfl rfl rfl rfl rfl) ?_ | refine awpOps_cons (g_on rfl rfl rfl (op_ldl ty27_OListVote rfl rfl rfl)) ?_
      all_goals first | refine awpOps_cons (g_off rfl rfl rfl rfl rfl) ?_ | refine awpOps_cons (g_on rfl rfl rfl (op_len sl27 rfl rfl)) ?_
      all_goals first | refine awpOps_cons (g_off rfl rfl rfl rfl rfl) ?_ | refine awpOps_cons (g_on rfl rfl rfl (op_gtr rfl rfl rfl)) ?_
      all_goals refine awpOps_cons (op_pick rfl rfl rfl rfl) ?_
      all_goals refine awpOps_nil ?_
      · refine awp_cond rfl (fun h2 => ?_) (fun h2 => ?_)
        · have hj4 : j < 4 := by have := of_decide_eq_true h; omega
          refine awp_skip ?_
          refine awp_seq (awp_block ?_)
          all_goals refine awp_seq (awp_region (id := 22) ?_)
          all_goals refine awpOps_cons (op_fab f29_2_WrldS rfl rfl) ?_
          all_goals refine awpOps_cons (op_ldl ty27_OListVote rfl rfl rfl) ?_
          all_goals refine awpOps_cons (op_len sl27 rfl rfl) ?_
          all_goals refine awpOps_cons (op_sub rfl rfl rfl (by (simp only [sW]; omega))) ?_
          all_goals refine awpOps_cons (op_mv rfl (Conv.of rfl) rfl) ?_
          all_goals refine awpOps_cons (op_build (.cons f50_0 rfl (Conv.of rfl) (.cons f50_1 rfl (Conv.of rfl) (.cons f50_2 rfl (Conv.of rfl) (.nil _)))) z50 rfl pl50 rfl) ?_
          all_goals refine awpOps_cons (op_alloc (o := 9) z50 rfl rfl) ?_
          all_goals refine awpOps_cons (op_st ty50 rfl rfl (Conv.of rfl) rfl) ?_
          all_goals refine awpOps_nil ?_
          all_goals refine awp_seq (awp_region (id := 23) ?_)
          all_goals refine awpOps_cons (op_mvl rfl rfl rfl rfl) ?_
          all_goals refine awpOps_cons (op_ld ty50 rfl rfl rfl) ?_
          all_goals refine awpOps_cons (op_bsl sl23 z50 (.cons rfl (Conv.of rfl) (.nil _)) rfl (by decide) rfl) ?_
          all_goals refine awpOps_cons (op_app sl23 z50 ul23 rfl rfl rfl (by (simp; omega)) (by (simp; omega)) rfl rfl) ?_
          all_goals refine awpOps_cons (op_asl rfl rfl rfl rfl) ?_
          all_goals refine awpOps_nil ?_
          all_goals refine awp_region (id := 24) ?_
          all_goals refine awpOps_cons (op_ldm ty29_WrldS rfl rfl rfl) ?_
          all_goals refine awpOps_cons (op_ld ty50 rfl rfl rfl) ?_
          all_goals refine awpOps_cons (op_callM (s := 96) (pre := []) fb51 (.nil _) rfl (.cons rfl (Conv.of rfl) (.nil _)) (l21Do_ct w6 _ hw6) (olsk rfl ols0) (oksk (by exact obOkNs) oks0) (oksk (by exact obOkNs) oks0) rfl argO0 (argOk' rfl rfl argO0) (inOne rfl) (inOne rfl) rfl) ?_
          all_goals refine awpOps_cons (op_stm ty29_WrldS rfl rfl rfl) ?_
          all_goals refine awpOps_nil ?_
          all_goals refine awp_region (id := 21) ?_
          all_goals refine awpOps_cons (op_mv rfl (Conv.of rfl) rfl) ?_
          all_goals refine awpOps_cons (op_add rfl rfl rfl (by omega)) ?_
          all_goals refine awpOps_cons (op_as rfl (Conv.of rfl) rfl) ?_
          all_goals refine awpOps_nil ?_
          repeat first | refine nx_seq ?_ | refine nx_block ?_
          exact ⟨n_ - 1, _, by omega, ⟨j + 1, _, _, by omega, doF_ok _ hw6, by simp; omega, rfl⟩, Le.mk rfl (tlb rfl rfl rfl (tlb rfl rfl rfl (tle rfl (rfl) rfl (tlb rfl rfl rfl (tle rfl (rfl) rfl (tle rfl (rfl) rfl (tle rfl (by rfl) rfl tln))))))) (olk rfl (by exact obOk_cell) (olk rfl (by exact obOkNs) (olk rfl (by exact obOkS0) (olk rfl (by exact obOkS rfl) oln)))) (hS_sub (a := [(0, .cell r)]) rfl)⟩
        · refine awp_exit ?_
          repeat refine ex_seq ?_
          refine ex_block ?_
          exact nx_block (nx_seq ⟨(evs6, w6), ⟨hw6, by simp only; omega⟩, Le.mk rfl (tlb rfl rfl rfl (tlb rfl rfl rfl (tle rfl (rfl) rfl (tlb rfl rfl rfl (tle rfl (rfl) rfl (tle rfl (rfl) rfl tln)))))) (olk rfl (by exact obOk_cell) (olk rfl (by exact obOkNs) (olk rfl (by exact obOkS0) (olk rfl (by exact obOkS rfl) oln)))) (hS_sub (a := [(0, .cell r)]) rfl)⟩)
      · refine awp_cond rfl (fun h2 => absurd h2 (by decide)) (fun h2 => ?_)
        refine awp_exit ?_
        repeat refine ex_seq ?_
        refine ex_block ?_
        exact nx_block (nx_seq ⟨(evs6, w6), ⟨hw6, by simp only; omega⟩, Le.mk rfl (tlb rfl rfl rfl (tlb rfl rfl rfl (tle rfl (rfl) rfl (tlb rfl rfl rfl (tle rfl (rfl) rfl (tle rfl (rfl) rfl tln)))))) (olk rfl (by exact obOk_cell) (olk rfl (by exact obOkNs) (olk rfl (by exact obOkS0) (olk rfl (by exact obOkS rfl) oln)))) (hS_sub (a := [(0, .cell r)]) rfl)⟩)
    rintro ⟨evs7, w7⟩ ⟨hw7, he7⟩
    simp only at hw7 he7 ⊢
    all_goals refine awp_region (id := 6) ?_
    all_goals refine awpOps_cons (op_mv rfl (Conv.of rfl) rfl) ?_
    all_goals refine awpOps_cons (op_sub rfl rfl rfl (by omega)) ?_
    all_goals refine awpOps_cons (op_as rfl (Conv.of rfl) rfl) ?_
    all_goals refine awpOps_nil ?_
    repeat first | refine nx_seq ?_ | refine nx_block ?_
    exact ⟨n_ - 1, _, by omega, ⟨k + 1, evs7, w7, r2, by omega, hw7, by omega, hf3.weak (by omega), rfl⟩, Le.mk rfl (tlb rfl rfl rfl (tlb rfl rfl rfl (tle rfl (rfl) rfl (tlb rfl rfl rfl (tle rfl (rfl) rfl (tle rfl (by (show AV.v _ = AV.v _; congr 1; omega)) rfl tln)))))) (olk rfl (by exact obOk_cell) (olk rfl (by exact obOkNs) (olk rfl (by exact obOkS0) (olk rfl (by exact obOkS rfl) oln)))) (hS_sub (a := [(0, .cell r)]) rfl)⟩
  · refine awp_exit ?_
    repeat refine ex_seq ?_
    refine ex_block ?_
    have hff : Far 2000 r1 := hf.weak (by omega)
    clear hf hk h hq1 hq1' hq0 hq0' hf1 hf2 hp
    have he40 : evs.length ≤ 40 := by omega
    clear he hk4
    refine awp_seq_ex (ι := List Evt × Wrld × Rd) (fun i => mkSt 120 [(0, .box 0 (IsLens.whole Rd)), (4, .box 5 (IsLens.whole WrldS)), (5, .v bad), (6, .box 6 (IsLens.whole WrldS)), (8, .v (OList.mk i.1 true))] [(0, .cell i.2.2), (1, .arr (Wrld.nodes i.2.1 |>.map sN)), (5, .cell WrldS.zero), (6, .cell (sW i.2.1))]) (fun i => FineX i.2.1 ∧ i.1.length ≤ 100 ∧ Far 20000 i.2.2) ?_ ?_
    · refine awp_block ?_
      refine awp_loop' (fun n_ s => ∃ (evs2 : List Evt), ∃ (w2 : Wrld), ∃ (r2 : Rd), ∃ (hj : n_ + evs2.length = 200), ∃ (hw2 : FineX w2), ∃ (he2 : evs2.length ≤ 100), ∃ (hf2 : Far (2000 + 130 * (evs2.length : Int)) r2), s = mkSt 120 [(0, .box 0 (IsLens.whole Rd)), (4, .box 5 (IsLens.whole WrldS)), (5, .v bad), (6, .box 6 (IsLens.whole WrldS)), (8, .v (OList.mk evs2 true))] [(0, .cell r2), (1, .arr (Wrld.nodes w2 |>.map sN)), (5, .cell WrldS.zero), (6, .cell (sW w2))]) (200 - evs.length) ⟨evs, w, r1, by omega, hw, by omega, hff.weak (by omega), rfl⟩ (Le.mk rfl (tlb rfl rfl rfl (tlb rfl rfl rfl (tle rfl (rfl) rfl (tlb rfl rfl rfl (tle rfl (rfl) rfl tln))))) (olk rfl (by exact obOk_cell) (olk rfl (by exact obOkNs) (olk rfl (by exact obOkS0) (olk rfl (by exact obOkS rfl) oln)))) (hS_sub (a := [(0, .cell r)]) rfl)) ?_
      rintro n_ s ⟨evs2, w2, r2, hj, hw2, he2, hf2, rfl⟩
      have hf3 : Far (2001 + 130 * (evs2.length : Int)) (nx r2 1) := hf2.nx (by omega) (by omega)
      all_goals refine awp_seq (awp_seq (awp_region (id := 25) ?_))
      all_goals refine awpOps_cons (op_mv rfl Conv.ol rfl) ?_
      all_goals refine awpOps_cons (op_len sl23 rfl rfl) ?_
      all_goals refine awpOps_cons (op_lss rfl rfl rfl) ?_
      all_goals refine awpOps_cons (op_mv rfl (Conv.of rfl) rfl) ?_
      all_goals refine g_split (t := 102) rfl (fun h => ?_) (fun h => ?_)
      all_goals first | refine awpOps_cons (g_off rfl rfl rfl rfl rfl) ?_ | refine awpOps_cons (g_on rfl rfl rfl (op_mv rfl (Conv.of rfl) rfl)) ?_
      all_goals first | refine awpOps_cons (g_off rfl rfl rfl rfl rfl) ?_ | refine awpOps_cons (g_on rfl rfl rfl (op_callO fb47 (.cons rfl (Conv.of rfl) (.cons rfl (Conv.of rfl) (.nil _))) (pick_ct r2 40 (by unfold Far at hf2; omega)) (olsk rfl ols0) (oksk (by exact obOk_cell) oks0) (oksk (by exact obOk_cell) oks0) rfl (argOb rfl rfl rfl (argOk' rfl rfl argO0)) (fun o ho => by cases ho) rfl)) ?_
      all_goals first | refine awpOps_cons (g_off rfl rfl rfl rfl rfl) ?_ | refine awpOps_cons (g_on rfl rfl rfl (op_gtr rfl rfl rfl)) ?_
      all_goals refine awpOps_cons (op_pick rfl rfl rfl rfl) ?_
      all_goals refine awpOps_nil ?_
      · have h69 : evs2.length < 69 := by have := of_decide_eq_true h; omega
        refine awp_cond rfl (fun h2 => ?_) (fun h2 => ?_)
        · refine awp_skip ?_
          refine awp_block ?_
          all_goals refine awp_seq (awp_region (id := 26) ?_)
          all_goals refine awpOps_cons (op_mv rfl (Conv.of rfl) rfl) ?_
          all_goals refine awpOps_cons (op_ldd ty29_WrldS rfl rfl rfl) ?_
          refine awpOps_callE (ι := Evt × Rd) (ro (nx r2 1) w2) (fun i => .v i.1) (fun i => ro i.2 w2) (fun i => (nx r2 1).p ≤ i.2.p ∧ i.2.p ≤ (nx r2 1).p + 120) rfl fb97 (.cons rfl (Conv.of rfl) (.cons rfl (Conv.of rfl) (.nil _))) (l72Event_ct (nx r2 1) w2 hw2 (hf3.weak (by omega))) (fun r h' ⟨v, r', e1, e2, e3, e4⟩ => ⟨(v, r'), e1, e2, e3, e4⟩) (olsk rfl (olsk rfl ols0)) (oksk obOk_cell (oksk obOkNs oks0)) (argOb rfl rfl rfl (argOb rfl rfl rfl argO0)) rfl (fun i => rfl) (fun i => oksk obOk_cell (oksk obOkNs oks0)) (fun i o ho => by cases ho) ?_
          rintro ⟨e, r3⟩ ⟨q1, q2⟩
          simp only at q1 q2 ⊢
          have hf4 : Far (2130 + 130 * (evs2.length : Int)) r3 := by unfold Far at hf3 ⊢; omega
          all_goals refine awpOps_cons (op_alloc (o := 10) z50 rfl rfl) ?_
          all_goals refine awpOps_cons (op_st ty50 rfl rfl (Conv.of rfl) rfl) ?_
          all_goals refine awpOps_nil ?_
          all_goals refine awp_seq (awp_region (id := 27) ?_)
          all_goals refine awpOps_cons (op_mvl rfl rfl rfl rfl) ?_
          all_goals refine awpOps_cons (op_ld ty50 rfl rfl rfl) ?_
          all_goals refine awpOps_cons (op_bsl sl23 z50 (.cons rfl (Conv.of rfl) (.nil _)) rfl (by decide) rfl) ?_
          all_goals refine awpOps_cons (op_app sl23 z50 ul23 rfl rfl rfl (by (simp; omega)) (by (simp; omega)) rfl rfl) ?_
          all_goals refine awpOps_cons (op_asl rfl rfl rfl rfl) ?_
          all_goals refine awpOps_nil ?_
          all_goals refine awp_region (id := 28) ?_
          all_goals refine awpOps_cons (op_ldm ty29_WrldS rfl rfl rfl) ?_
          all_goals refine awpOps_cons (op_ld ty50 rfl rfl rfl) ?_
          all_goals refine awpOps_cons (op_callM (s := 114) (pre := []) fb51 (.nil _) rfl (.cons rfl (Conv.of rfl) (.nil _)) (l21Do_ct w2 _ hw2) (olsk rfl ols0) (oksk (by exact obOkNs) oks0) (oksk (by exact obOkNs) oks0) rfl argO0 (argOk' rfl rfl argO0) (inOne rfl) (inOne rfl) rfl) ?_
          all_goals refine awpOps_cons (op_stm ty29_WrldS rfl rfl rfl) ?_
          all_goals refine awpOps_nil ?_
          repeat first | refine nx_seq ?_ | refine nx_block ?_
          exact ⟨n_ - 1, _, by omega, ⟨evs2 ++ [e], doF w2 e, r3, by simp; omega, doF_ok _ hw2, by simp; omega, hf4.weak (by simp; omega), rfl⟩, Le.mk rfl (tlb rfl rfl rfl (tlb rfl rfl rfl (tle rfl (rfl) rfl (tlb rfl rfl rfl (tle rfl (rfl) rfl tln))))) (olk rfl (by exact obOk_cell) (olk rfl (by exact obOkNs) (olk rfl (by exact obOkS0) (olk rfl (by exact obOkS rfl) oln)))) (hS_sub (a := [(0, .cell r)]) rfl)⟩
        · refine awp_exit ?_
          repeat refine ex_seq ?_
          refine ex_block ?_
          exact nx_seq ⟨(evs2, w2, nx r2 1), ⟨hw2, by simp only; omega, by simp only; exact Far.weak hf3 (by omega)⟩, Le.mk rfl (tlb rfl rfl rfl (tlb rfl rfl rfl (tle rfl (rfl) rfl (tlb rfl rfl rfl (tle rfl (rfl) rfl tln))))) (olk rfl (by exact obOk_cell) (olk rfl (by exact obOkNs) (olk rfl (by exact obOkS0) (olk rfl (by exact obOkS rfl) oln)))) (hS_sub (a := [(0, .cell r)]) rfl)⟩
      · refine awp_cond rfl (fun h2 => absurd h2 (by decide)) (fun h2 => ?_)
        refine awp_exit ?_
        repeat refine ex_seq ?_
        refine ex_block ?_
        exact nx_seq ⟨(evs2, w2, r2), ⟨hw2, by simp only; omega, by simp only; exact Far.weak hf2 (by omega)⟩, Le.mk rfl (tlb rfl rfl rfl (tlb rfl rfl rfl (tle rfl (rfl) rfl (tlb rfl rfl rfl (tle rfl (rfl) rfl tln))))) (olk rfl (by exact obOk_cell) (olk rfl (by exact obOkNs) (olk rfl (by exact obOkS0) (olk rfl (by exact obOkS rfl) oln)))) (hS_sub (a := [(0, .cell r)]) rfl)⟩
    · rintro ⟨evs3, w3, r3⟩ ⟨hw3, he3, hf3⟩
      simp only at hw3 he3 hf3 ⊢
      all_goals refine awp_seq (dr_start (id := 29) ?_)
      all_goals refine dr_cons (op_mv rfl (Conv.of rfl) rfl) ?_
      all_goals refine dr_cons (op_mvl rfl rfl rfl rfl) ?_
      all_goals refine dr_cons (op_ldm ty29_WrldS rfl rfl rfl) ?_
      all_goals refine dr_cons (op_as rfl (Conv.of rfl) rfl) ?_
      all_goals refine dr_cons (op_asl rfl rfl rfl rfl) ?_
      all_goals refine dr_cons (op_stm ty29_WrldS rfl rfl rfl) ?_
      all_goals refine dr_nil mixed rfl ?_
      refine awp_ret ?_
      repeat first | refine rt_seq ?_ | refine rt_block ?_
      exact ⟨_, _, resNM (ol := ro r3 w3) (.keep (.v rfl (Conv.of rfl)) (.tmp rfl (.cell ty29_WrldS rfl rfl (.nil _)))) rfl (inOne rfl) (olk rfl obOk_cell (olk rfl obOkNs oln)) (hS_sub rfl), bad, evs3, w3, r3, rfl, rfl, he3, hb, hw3, hf3⟩
end Go.Proofs.YtompnmkpgffhkaaGreat

/- The reference: a drawn play. -/
set_option linter.unusedVariables false
set_option linter.unusedSimpArgs false
namespace Go.Proofs.YtompnmkpgffhkaaGreat
open Go Go.Wt
set_option maxHeartbeats 4000000 in
theorem drawPlay_ct (code : List UInt8) : Ct Tryz.prog 14 [.v code] noObj (fun r1 h1 => ∃ (bad : Int) (evs : List Evt), r1 = .tup [.v bad, .v evs] ∧ h1 = noObj ∧ evs.length ≤ 100) := by
  refine Ct.intro Tryz.func14 rfl rfl ?_
  all_goals refine awp_seq (awp_region (id := 0) ?_)
  all_goals refine awpOps_cons (op_as rfl (Conv.of rfl) rfl) ?_
  all_goals refine awpOps_cons (op_as rfl (Conv.of rfl) rfl) ?_
  all_goals refine awpOps_nil ?_
  all_goals refine awp_seq (awp_region (id := 1) ?_)
  all_goals refine awpOps_cons (op_mv rfl (Conv.of rfl) rfl) ?_
  refine awpOps_callO [] rfl fb45 (.cons rfl (Conv.of rfl) (.nil _)) (l6Open_ct code) ols0 oks0 (argOk' rfl rfl argO0) rfl ?_
  rintro r_ h' ⟨rfl, rfl⟩
  refine ⟨[(0, .cell (Rd.mk (code.take 2000) 0))], rfl, (fun o ho => by cases ho), fun o ho _ => ?_, oksk obOk_cell oks0, fun o ho => ?_, ?_⟩
  · have : o = 0 := by simpa [keys, lk0] using ho
    subst this; rfl
  · have : o = 0 := by simpa using (show o ∈ [0] from ho)
    subst this; rfl
  have hf0 : Far 1000 (Rd.mk (code.take 2000) 0) := ⟨by simp, by simp⟩
  generalize Rd.mk (code.take 2000) 0 = r0 at hf0 ⊢
  all_goals refine awpOps_cons (op_as rfl (Conv.of rfl) rfl) ?_
  all_goals refine awpOps_nil ?_
  all_goals refine awp_seq (awp_region (id := 2) ?_)
  all_goals refine awpOps_cons (op_mv rfl (Conv.of rfl) rfl) ?_
  refine awpOps_callO [(0, .cell r0)] rfl fb46 (.cons rfl (Conv.of rfl) (.nil _)) (l72Play_ct r0 hf0) (olsk rfl ols0) (oksk obOk_cell oks0) (argOb rfl rfl rfl argO0) rfl ?_
  rintro r_ h' ⟨bad, evs, w, r1, rfl, rfl, he, hb, hw, hf⟩
  refine ⟨ro r1 w, rfl, fun o ho => ?_, fun o ho h1 => ?_, oksk obOk_cell (oksk obOkNs oks0), fun o ho => ?_, ?_⟩
  · have : o = 0 := by simpa [keys, lk0] using ho
    subst this; rfl
  · by_cases e0 : o = 0
    · subst e0; cases h1
    · have : o = 1 := by simpa [keys, lk0, e0] using ho
      subst this; rfl
  · have : o = 1 := by simpa using (show o ∈ [1] from ho)
    subst this; rfl
  have hk1 := pk_bd hf (by omega) 40
  have hf1 : Far 20001 (nx r1 1) := hf.nx (by omega) (by omega)
  have hk2 := pk_bd hf1 (by omega) 2
  have hk3 := hk2.2 (by omega)
  all_goals refine awpOps_cons (op_mvo rfl rfl rfl rfl) ?_
  all_goals refine awpOps_cons (op_ext rfl rfl rfl) ?_
  all_goals refine awpOps_cons (op_extm rfl rfl rfl rfl) ?_
  all_goals refine awpOps_cons (op_extm rfl rfl rfl rfl) ?_
  all_goals refine awpOps_cons (op_alloc (o := 6) z29_WrldS rfl rfl) ?_
  all_goals refine awpOps_cons (op_as rfl (Conv.of rfl) rfl) ?_
  all_goals refine awpOps_cons (op_asl rfl rfl rfl rfl) ?_
  all_goals refine awpOps_cons (op_stm ty29_WrldS rfl rfl rfl) ?_
  all_goals refine awpOps_nil ?_
  all_goals refine awp_seq (awp_seq (awp_region (id := 3) ?_))
  all_goals refine awpOps_cons (op_mv rfl (Conv.of rfl) rfl) ?_
  all_goals refine awpOps_cons (op_callO fb47 (.cons rfl (Conv.of rfl) (.cons rfl (Conv.of rfl) (.nil _))) (pick_ct r1 40 (by unfold Far at hf; omega)) (olsk rfl ols0) (oksk (by exact obOk_cell) oks0) (oksk (by exact obOk_cell) oks0) rfl (argOb rfl rfl rfl (argOk' rfl rfl argO0)) (fun o ho => by cases ho) rfl) ?_
  all_goals refine awpOps_nil ?_
  refine nx_seq (awp_to_ex (ι := Int × List Evt) (fun i => mkSt 36 [(5, .v i.1), (6, .v (OList.mk i.2 true))] []) (fun i => i.2.length ≤ 100) ?_ ?_)
  · refine awp_block ?_
    all_goals refine awp_seq (awp_region (id := 4) ?_)
    all_goals refine awpOps_cons (op_eql rfl rfl rfl) ?_
    all_goals refine awpOps_cons (op_as rfl (Conv.of rfl) rfl) ?_
    all_goals refine awpOps_nil ?_
    refine awp_cond rfl (fun h => ?_) (fun h => ?_)
    · have hx : ([-1, 5] : List Int)[(pk (nx r1 1) 2).toNat]? = some (([-1, 5] : List Int)[(pk (nx r1 1) 2).toNat]'(by simp; omega)) := List.getElem?_eq_getElem (by simp; omega)
      all_goals refine awp_region (id := 5) ?_
      all_goals refine awpOps_cons (op_bsl sl41 z3 (.cons rfl (Conv.of rfl) (.cons rfl (Conv.of rfl) (.nil _))) rfl (by decide) rfl) ?_
      all_goals refine awpOps_cons (op_mv rfl (Conv.of rfl) rfl) ?_
      all_goals refine awpOps_cons (op_callO fb47 (.cons rfl (Conv.of rfl) (.cons rfl (Conv.of rfl) (.nil _))) (pick_ct (nx r1 1) 2 (by unfold Far at hf1; omega)) (olsk rfl ols0) (oksk (by exact obOk_cell) oks0) (oksk (by exact obOk_cell) oks0) rfl (argOb rfl rfl rfl (argOk' rfl rfl argO0)) (fun o ho => by cases ho) rfl) ?_
      all_goals refine awpOps_cons (op_ix sl41 rfl rfl rfl hk2.1 hx) ?_
      all_goals refine awpOps_cons (op_ldr ty3 rfl rfl) ?_
      all_goals refine awpOps_cons (op_as rfl (Conv.of rfl) rfl) ?_
      all_goals refine awpOps_nil ?_
      refine nx_block (nx_seq ⟨(_, evs), he, Le.mk rfl (tle rfl (rfl) rfl (tle rfl (rfl) rfl tln)) oln noS⟩)
    · all_goals refine awp_seq (awp_region (id := 6) ?_)
      all_goals refine awpOps_cons (op_eql rfl rfl rfl) ?_
      all_goals refine awpOps_cons (op_as rfl (Conv.of rfl) rfl) ?_
      all_goals refine awpOps_nil ?_
      refine awp_cond rfl (fun h2 => ?_) (fun h2 => ?_)
      · refine awp_block ?_
        refine awp_loop' (fun n_ s => ∃ (evs2 : List Evt), ∃ (hj : n_ + evs2.length = 200), ∃ (he2 : evs2.length ≤ 100), s = mkSt 36 [(5, .v bad), (6, .v (OList.mk evs2 true))] []) (200 - evs.length) ⟨evs, by omega, he, rfl⟩ (Le.mk rfl (tle rfl (rfl) rfl (tle rfl (rfl) rfl tln)) oln noS) ?_
        rintro n_ s ⟨evs2, hj, he2, rfl⟩
        all_goals refine awp_seq (awp_seq (awp_region (id := 7) ?_))
        all_goals refine awpOps_cons (op_mv rfl Conv.ol rfl) ?_
        all_goals refine awpOps_cons (op_len sl23 rfl rfl) ?_
        all_goals refine awpOps_cons (op_leq rfl rfl rfl) ?_
        all_goals refine awpOps_nil ?_
        refine awp_cond rfl (fun h3 => ?_) (fun h3 => ?_)
        · have h70 : evs2.length ≤ 70 := by have := of_decide_eq_true h3; omega
          refine awp_skip ?_
          refine awp_block ?_
          all_goals refine awp_region (id := 8) ?_
          all_goals refine awpOps_cons (op_mvl rfl rfl rfl rfl) ?_
          all_goals refine awpOps_cons (op_build (.cons f50_0 rfl (Conv.of rfl) (.nil _)) z50 rfl pl50 rfl) ?_
          all_goals refine awpOps_cons (op_bsl sl23 z50 (.cons rfl (Conv.of rfl) (.nil _)) rfl (by decide) rfl) ?_
          all_goals refine awpOps_cons (op_app sl23 z50 ul23 rfl rfl rfl (by (simp; omega)) (by (simp; omega)) rfl rfl) ?_
          all_goals refine awpOps_cons (op_asl rfl rfl rfl rfl) ?_
          all_goals refine awpOps_nil ?_
          repeat first | refine nx_seq ?_ | refine nx_block ?_
          exact ⟨n_ - 1, _, by omega, ⟨evs2 ++ [_], by simp; omega, by simp; omega, rfl⟩, Le.mk rfl (tle rfl (rfl) rfl (tle rfl (rfl) rfl tln)) oln noS⟩
        · refine awp_exit ?_
          repeat refine ex_seq ?_
          refine ex_block ?_
          exact nx_block (nx_seq ⟨(bad, evs2), he2, Le.mk rfl (tle rfl (rfl) rfl (tle rfl (rfl) rfl tln)) oln noS⟩)
      · refine awp_skip ?_
        exact nx_block (nx_seq ⟨(bad, evs), he, Le.mk rfl (tle rfl (rfl) rfl (tle rfl (rfl) rfl tln)) oln noS⟩)
  · rintro ⟨bad2, evs2⟩ he2
    simp only at he2 ⊢
    all_goals refine awp_seq (awp_region (id := 9) ?_)
    all_goals refine awpOps_cons (op_mv rfl (Conv.of rfl) rfl) ?_
    all_goals refine awpOps_cons (op_mvl rfl rfl rfl rfl) ?_
    all_goals refine awpOps_cons (op_as rfl (Conv.of rfl) rfl) ?_
    all_goals refine awpOps_cons (op_asl rfl rfl rfl rfl) ?_
    all_goals refine awpOps_nil ?_
    refine awp_ret ?_
    repeat first | refine rt_seq ?_ | refine rt_block ?_
    exact ⟨_, _, resN (ol := []) (.cons (.v rfl (Conv.of rfl)) (.cons (.v rfl Conv.ol) .nil)) rfl (fun o ho => absurd (show o ∈ ([] : List Nat) from ho) (by simp)) oln noS, bad2, evs2, rfl, rfl, he2⟩
end Go.Proofs.YtompnmkpgffhkaaGreat

/- The laws' own words: the same chains, votes, nodes, worlds. -/
set_option linter.unusedVariables false
set_option linter.unusedSimpArgs false
namespace Go.Proofs.YtompnmkpgffhkaaGreat
open Go Go.Wt
theorem lwSame_ct (a b : List Itm) : CtP Tryz.prog 30 [.v a, .v b] (.v (decide (a = b))) := by
  refine Ct.intro Tryz.func30 rfl rfl ?_
  refine awp_bigL 0 rfl (fun hB => ?_)
  all_goals refine awp_seq (awp_region (id := 0) ?_)
  all_goals refine awpOps_cons (op_as rfl (Conv.of rfl) rfl) ?_
  all_goals refine awpOps_nil ?_
  all_goals refine awp_seq (awp_seq (awp_region (id := 1) ?_))
  all_goals refine awpOps_cons (op_mv rfl (Conv.of rfl) rfl) ?_
  all_goals refine awpOps_cons (op_len sl35 rfl rfl) ?_
  all_goals refine awpOps_cons (op_mv rfl (Conv.of rfl) rfl) ?_
  all_goals refine awpOps_cons (op_len sl35 rfl rfl) ?_
  all_goals refine awpOps_cons (op_neq rfl rfl rfl) ?_
  all_goals refine awpOps_nil ?_
  refine awp_cond rfl (fun h => ?_) (fun h => ?_)
  · all_goals refine awp_seq (awp_region (id := 2) ?_)
    all_goals refine awpOps_cons (op_as rfl (Conv.of rfl) rfl) ?_
    all_goals refine awpOps_nil ?_
    refine awp_ret ?_
    repeat first | refine rt_seq ?_ | refine rt_block ?_
    refine finP (.v rfl (Conv.of rfl)) rfl ?_
    show AV.v false = _
    have : a ≠ b := by intro e; subst e; simp at h
    simp [this]
  · refine awp_skip ?_
    have hlen : a.length = b.length := by simp at h; omega
    all_goals refine awp_seq (awp_seq (awp_region (id := 3) ?_))
    all_goals refine awpOps_cons (op_as rfl (Conv.of rfl) rfl) ?_
    all_goals refine awpOps_nil ?_
    refine awp_block ?_
    refine awp_loop' (fun n s => ∃ (k : Nat), ∃ (hn : n + k = a.length), ∃ (hall : decide (a = b) = decide (a.drop k = b.drop k)), s = mkSt 26 [(0, .v a), (1, .v b), (5, .v (k : Int))] []) (a.length) ⟨0, by omega, rfl, rfl⟩ (Le.mk rfl (tle rfl (rfl) rfl (tle rfl (rfl) rfl (tle rfl (rfl) rfl tln))) oln noS) ?_
    rintro n s ⟨k, hn, hall, rfl⟩
    all_goals refine awp_seq (awp_seq (awp_region (id := 4) ?_))
    all_goals refine awpOps_cons (op_mv rfl (Conv.of rfl) rfl) ?_
    all_goals refine awpOps_cons (op_mv rfl (Conv.of rfl) rfl) ?_
    all_goals refine awpOps_cons (op_len sl35 rfl rfl) ?_
    all_goals refine awpOps_cons (op_lss rfl rfl rfl) ?_
    all_goals refine awpOps_nil ?_
    refine awp_cond rfl (fun h => ?_) (fun h => ?_)
    · have hlt : k < a.length := by simpa using h
      have hx : a[k]? = some a[k] := List.getElem?_eq_getElem hlt
      have hy : b[k]? = some (b[k]'(by omega)) := List.getElem?_eq_getElem (by omega)
      have hs := same_drop hx hy
      refine awp_skip ?_
      refine awp_seq (awp_block ?_)
      all_goals refine awp_seq (dr_start (id := 6) ?_)
      all_goals refine dr_cons (op_mv rfl (Conv.of rfl) rfl) ?_
      all_goals refine dr_cons (op_mv rfl (Conv.of rfl) rfl) ?_
      all_goals refine dr_cons (op_ix sl35 rfl rfl rfl (by omega) hx) ?_
      all_goals refine dr_cons (op_ldr ty67 rfl rfl) ?_
      all_goals refine dr_cons (op_mv rfl (Conv.of rfl) rfl) ?_
      all_goals refine dr_cons (op_mv rfl (Conv.of rfl) rfl) ?_
      all_goals refine dr_cons (op_ix sl35 rfl rfl rfl (by omega) hy) ?_
      all_goals refine dr_cons (op_ldr ty67 rfl rfl) ?_
      all_goals refine dr_cons (op_nea weq67 rfl rfl rfl) ?_
      all_goals refine dr_nil mixed rfl ?_
      refine awp_cond rfl (fun h => ?_) (fun h => ?_)
      · all_goals refine awp_seq (awp_region (id := 7) ?_)
        all_goals refine awpOps_cons (op_as rfl (Conv.of rfl) rfl) ?_
        all_goals refine awpOps_nil ?_
        refine awp_ret ?_
        repeat first | refine rt_seq ?_ | refine rt_block ?_
        refine finP (.v rfl (Conv.of rfl)) rfl ?_
        show AV.v false = _
        have h' : decide (a[k] = b[k]) = false := by simpa using h
        rw [hall, hs, h', Bool.false_and]
      · refine awp_skip ?_
        all_goals refine awp_region (id := 5) ?_
        all_goals refine awpOps_cons (op_mv rfl (Conv.of rfl) rfl) ?_
        all_goals refine awpOps_cons (op_add rfl rfl rfl (by omega)) ?_
        all_goals refine awpOps_cons (op_as rfl (Conv.of rfl) rfl) ?_
        all_goals refine awpOps_nil ?_
        have h' : decide (a[k] = b[k]) = true := by simpa using h
        repeat first | refine nx_seq ?_ | refine nx_block ?_
        exact ⟨n - 1, _, by omega, ⟨k + 1, by omega, by rw [hall, hs, h', Bool.true_and], rfl⟩, Le.mk rfl (tle rfl (rfl) rfl (tle rfl (rfl) rfl (tle rfl (rfl) rfl tln))) oln noS⟩
    · refine awp_exit ?_
      repeat refine ex_seq ?_
      refine ex_block ?_
      have hk : a.length ≤ k := by simpa using h
      all_goals refine awp_seq (awp_region (id := 8) ?_)
      all_goals refine awpOps_cons (op_as rfl (Conv.of rfl) rfl) ?_
      all_goals refine awpOps_nil ?_
      refine awp_ret ?_
      repeat first | refine rt_seq ?_ | refine rt_block ?_
      refine finP (.v rfl (Conv.of rfl)) rfl ?_
      show AV.v true = _
      rw [hall, drop_end hk, drop_end (by omega : b.length ≤ k)]
      simp
theorem lwVote_ct (a b : Vote) : CtP Tryz.prog 73 [.v a, .v b] (.v (decide (a = b))) := by
  refine Ct.intro Tryz.func73 rfl rfl ?_
  all_goals refine awp_seq (awp_region (id := 0) ?_)
  all_goals refine awpOps_cons (op_box (o := 0) ty48 rfl (Conv.of rfl) rfl rfl) ?_
  all_goals refine awpOps_cons (op_box (o := 1) ty48 rfl (Conv.of rfl) rfl rfl) ?_
  all_goals refine awpOps_cons (op_as rfl (Conv.of rfl) rfl) ?_
  all_goals refine awpOps_nil ?_
  all_goals refine awp_seq (awp_region (id := 1) ?_)
  all_goals refine awpOps_cons (op_fab f48_0 rfl rfl) ?_
  all_goals refine awpOps_cons (op_ld ty3 rfl rfl rfl) ?_
  all_goals refine awpOps_cons (op_fab f48_0 rfl rfl) ?_
  all_goals refine awpOps_cons (op_ld ty3 rfl rfl rfl) ?_
  all_goals refine awpOps_cons (op_eql rfl rfl rfl) ?_
  all_goals refine awpOps_cons (op_mv rfl (Conv.of rfl) rfl) ?_
  all_goals refine g_split (t := 10) rfl (fun h => ?_) (fun h => ?_)
  all_goals first | refine awpOps_cons (g_off rfl rfl rfl rfl rfl) ?_ | refine awpOps_cons (g_on rfl rfl rfl (op_fab f48_1 rfl rfl)) ?_
  all_goals first | refine awpOps_cons (g_off rfl rfl rfl rfl rfl) ?_ | refine awpOps_cons (g_on rfl rfl rfl (op_ld ty35 rfl rfl rfl)) ?_
  all_goals first | refine awpOps_cons (g_off rfl rfl rfl rfl rfl) ?_ | refine awpOps_cons (g_on rfl rfl rfl (op_fab f48_1 rfl rfl)) ?_
  all_goals first | refine awpOps_cons (g_off rfl rfl rfl rfl rfl) ?_ | refine awpOps_cons (g_on rfl rfl rfl (op_ld ty35 rfl rfl rfl)) ?_
  all_goals first | refine awpOps_cons (g_off rfl rfl rfl rfl rfl) ?_ | refine awpOps_cons (g_on rfl rfl rfl (op_call fb30 (.cons rfl (Conv.of rfl) (.cons rfl (Conv.of rfl) (.nil _))) (lwSame_ct _ _) (argOk rfl rfl (argOk rfl rfl argOk0)) rfl rfl)) ?_
  all_goals refine awpOps_cons (op_pick rfl rfl rfl rfl) ?_
  all_goals refine awpOps_cons (op_as rfl (Conv.of rfl) rfl) ?_
  all_goals refine awpOps_nil ?_
  all_goals refine awp_ret ?_
  all_goals refine finP (.v rfl (Conv.of rfl)) rfl ?_
  all_goals (obtain ⟨a1, a2⟩ := a; obtain ⟨b1, b2⟩ := b; simp_all [FV.av])
theorem lwVotes_ct (a b : List Vote) : CtP Tryz.prog 52 [.v a, .v b] (.v (decide (a = b))) := by
  refine Ct.intro Tryz.func52 rfl rfl ?_
  refine awp_bigL 0 rfl (fun hB => ?_)
  all_goals refine awp_seq (awp_region (id := 0) ?_)
  all_goals refine awpOps_cons (op_as rfl (Conv.of rfl) rfl) ?_
  all_goals refine awpOps_nil ?_
  all_goals refine awp_seq (awp_seq (awp_region (id := 1) ?_))
  all_goals refine awpOps_cons (op_mv rfl (Conv.of rfl) rfl) ?_
  all_goals refine awpOps_cons (op_len sl27 rfl rfl) ?_
  all_goals refine awpOps_cons (op_mv rfl (Conv.of rfl) rfl) ?_
  all_goals refine awpOps_cons (op_len sl27 rfl rfl) ?_
  all_goals refine awpOps_cons (op_neq rfl rfl rfl) ?_
  all_goals refine awpOps_nil ?_
  refine awp_cond rfl (fun h => ?_) (fun h => ?_)
  · all_goals refine awp_seq (awp_region (id := 2) ?_)
    all_goals refine awpOps_cons (op_as rfl (Conv.of rfl) rfl) ?_
    all_goals refine awpOps_nil ?_
    refine awp_ret ?_
    repeat first | refine rt_seq ?_ | refine rt_block ?_
    refine finP (.v rfl (Conv.of rfl)) rfl ?_
    show AV.v false = _
    have : a ≠ b := by intro e; subst e; simp at h
    simp [this]
  · refine awp_skip ?_
    have hlen : a.length = b.length := by simp at h; omega
    all_goals refine awp_seq (awp_seq (awp_region (id := 3) ?_))
    all_goals refine awpOps_cons (op_as rfl (Conv.of rfl) rfl) ?_
    all_goals refine awpOps_nil ?_
    refine awp_block ?_
    refine awp_loop' (fun n s => ∃ (k : Nat), ∃ (hn : n + k = a.length), ∃ (hall : decide (a = b) = decide (a.drop k = b.drop k)), s = mkSt 27 [(0, .v a), (1, .v b), (5, .v (k : Int))] []) (a.length) ⟨0, by omega, rfl, rfl⟩ (Le.mk rfl (tle rfl (rfl) rfl (tle rfl (rfl) rfl (tle rfl (rfl) rfl tln))) oln noS) ?_
    rintro n s ⟨k, hn, hall, rfl⟩
    all_goals refine awp_seq (awp_seq (awp_region (id := 4) ?_))
    all_goals refine awpOps_cons (op_mv rfl (Conv.of rfl) rfl) ?_
    all_goals refine awpOps_cons (op_mv rfl (Conv.of rfl) rfl) ?_
    all_goals refine awpOps_cons (op_len sl27 rfl rfl) ?_
    all_goals refine awpOps_cons (op_lss rfl rfl rfl) ?_
    all_goals refine awpOps_nil ?_
    refine awp_cond rfl (fun h => ?_) (fun h => ?_)
    · have hlt : k < a.length := by simpa using h
      have hx : a[k]? = some a[k] := List.getElem?_eq_getElem hlt
      have hy : b[k]? = some (b[k]'(by omega)) := List.getElem?_eq_getElem (by omega)
      have hs := same_drop hx hy
      refine awp_skip ?_
      refine awp_seq (awp_block ?_)
      all_goals refine awp_seq (dr_start (id := 6) ?_)
      all_goals refine dr_cons (op_mv rfl (Conv.of rfl) rfl) ?_
      all_goals refine dr_cons (op_mv rfl (Conv.of rfl) rfl) ?_
      all_goals refine dr_cons (op_ix sl27 rfl rfl rfl (by omega) hx) ?_
      all_goals refine dr_cons (op_ldr ty48 rfl rfl) ?_
      all_goals refine dr_cons (op_mv rfl (Conv.of rfl) rfl) ?_
      all_goals refine dr_cons (op_mv rfl (Conv.of rfl) rfl) ?_
      all_goals refine dr_cons (op_ix sl27 rfl rfl rfl (by omega) hy) ?_
      all_goals refine dr_cons (op_ldr ty48 rfl rfl) ?_
      all_goals refine dr_cons (op_call fb73 (.cons rfl (Conv.of rfl) (.cons rfl (Conv.of rfl) (.nil _))) (lwVote_ct _ _) (argOk rfl rfl (argOk rfl rfl argOk0)) rfl rfl) ?_
      all_goals refine dr_cons (op_not rfl rfl) ?_
      all_goals refine dr_nil mixed rfl ?_
      refine awp_cond rfl (fun h => ?_) (fun h => ?_)
      · all_goals refine awp_seq (awp_region (id := 7) ?_)
        all_goals refine awpOps_cons (op_as rfl (Conv.of rfl) rfl) ?_
        all_goals refine awpOps_nil ?_
        refine awp_ret ?_
        repeat first | refine rt_seq ?_ | refine rt_block ?_
        refine finP (.v rfl (Conv.of rfl)) rfl ?_
        show AV.v false = _
        have h' : decide (a[k] = b[k]) = false := by simpa using h
        rw [hall, hs, h', Bool.false_and]
      · refine awp_skip ?_
        all_goals refine awp_region (id := 5) ?_
        all_goals refine awpOps_cons (op_mv rfl (Conv.of rfl) rfl) ?_
        all_goals refine awpOps_cons (op_add rfl rfl rfl (by omega)) ?_
        all_goals refine awpOps_cons (op_as rfl (Conv.of rfl) rfl) ?_
        all_goals refine awpOps_nil ?_
        have h' : decide (a[k] = b[k]) = true := by simpa using h
        repeat first | refine nx_seq ?_ | refine nx_block ?_
        exact ⟨n - 1, _, by omega, ⟨k + 1, by omega, by rw [hall, hs, h', Bool.true_and], rfl⟩, Le.mk rfl (tle rfl (rfl) rfl (tle rfl (rfl) rfl (tle rfl (rfl) rfl tln))) oln noS⟩
    · refine awp_exit ?_
      repeat refine ex_seq ?_
      refine ex_block ?_
      have hk : a.length ≤ k := by simpa using h
      all_goals refine awp_seq (awp_region (id := 8) ?_)
      all_goals refine awpOps_cons (op_as rfl (Conv.of rfl) rfl) ?_
      all_goals refine awpOps_nil ?_
      refine awp_ret ?_
      repeat first | refine rt_seq ?_ | refine rt_block ?_
      refine finP (.v rfl (Conv.of rfl)) rfl ?_
      show AV.v true = _
      rw [hall, drop_end hk, drop_end (by omega : b.length ≤ k)]
      simp
theorem lwNode_ct (a b : Nod) : CtP Tryz.prog 53 [.v a, .v b] (.v (decide (a = b))) := by
  refine Ct.intro Tryz.func53 rfl rfl ?_
  all_goals refine awp_seq (awp_region (id := 0) ?_)
  all_goals refine awpOps_cons (op_box (o := 0) ty39 rfl (Conv.of rfl) rfl rfl) ?_
  all_goals refine awpOps_cons (op_box (o := 1) ty39 rfl (Conv.of rfl) rfl rfl) ?_
  all_goals refine awpOps_cons (op_as rfl (Conv.of rfl) rfl) ?_
  all_goals refine awpOps_nil ?_
  all_goals refine awp_seq (awp_region (id := 1) ?_)
  all_goals refine awpOps_cons (op_fab f39_0 rfl rfl) ?_
  all_goals refine awpOps_cons (op_ld ty3 rfl rfl rfl) ?_
  all_goals refine awpOps_cons (op_fab f39_0 rfl rfl) ?_
  all_goals refine awpOps_cons (op_ld ty3 rfl rfl rfl) ?_
  all_goals refine awpOps_cons (op_eql rfl rfl rfl) ?_
  all_goals refine awpOps_cons (op_mv rfl (Conv.of rfl) rfl) ?_
  all_goals refine g_split (t := 10) rfl (fun h => ?_) (fun h => ?_)
  all_goals first | refine awpOps_cons (g_off rfl rfl rfl rfl rfl) ?_ | refine awpOps_cons (g_on rfl rfl rfl (op_fab f39_1 rfl rfl)) ?_
  all_goals first | refine awpOps_cons (g_off rfl rfl rfl rfl rfl) ?_ | refine awpOps_cons (g_on rfl rfl rfl (op_ld ty3 rfl rfl rfl)) ?_
  all_goals first | refine awpOps_cons (g_off rfl rfl rfl rfl rfl) ?_ | refine awpOps_cons (g_on rfl rfl rfl (op_fab f39_1 rfl rfl)) ?_
  all_goals first | refine awpOps_cons (g_off rfl rfl rfl rfl rfl) ?_ | refine awpOps_cons (g_on rfl rfl rfl (op_ld ty3 rfl rfl rfl)) ?_
  all_goals first | refine awpOps_cons (g_off rfl rfl rfl rfl rfl) ?_ | refine awpOps_cons (g_on rfl rfl rfl (op_eql rfl rfl rfl)) ?_
  all_goals refine awpOps_cons (op_pick rfl rfl rfl rfl) ?_
  all_goals refine awpOps_cons (op_mv rfl (Conv.of rfl) rfl) ?_
  all_goals first | refine g_lit (t := 17) (b := false) rfl ?_ | refine g_split (t := 17) rfl (fun h => ?_) (fun h => ?_)
  all_goals first | refine awpOps_cons (g_off rfl rfl rfl rfl rfl) ?_ | refine awpOps_cons (g_on rfl rfl rfl (op_fab f39_2 rfl rfl)) ?_
  all_goals first | refine awpOps_cons (g_off rfl rfl rfl rfl rfl) ?_ | refine awpOps_cons (g_on rfl rfl rfl (op_ld ty3 rfl rfl rfl)) ?_
  all_goals first | refine awpOps_cons (g_off rfl rfl rfl rfl rfl) ?_ | refine awpOps_cons (g_on rfl rfl rfl (op_fab f39_2 rfl rfl)) ?_
  all_goals first | refine awpOps_cons (g_off rfl rfl rfl rfl rfl) ?_ | refine awpOps_cons (g_on rfl rfl rfl (op_ld ty3 rfl rfl rfl)) ?_
  all_goals first | refine awpOps_cons (g_off rfl rfl rfl rfl rfl) ?_ | refine awpOps_cons (g_on rfl rfl rfl (op_eql rfl rfl rfl)) ?_
  all_goals refine awpOps_cons (op_pick rfl rfl rfl rfl) ?_
  all_goals refine awpOps_cons (op_mv rfl (Conv.of rfl) rfl) ?_
  all_goals first | refine g_lit (t := 24) (b := false) rfl ?_ | refine g_split (t := 24) rfl (fun h => ?_) (fun h => ?_)
  all_goals first | refine awpOps_cons (g_off rfl rfl rfl rfl rfl) ?_ | refine awpOps_cons (g_on rfl rfl rfl (op_fab f39_3 rfl rfl)) ?_
  all_goals first | refine awpOps_cons (g_off rfl rfl rfl rfl rfl) ?_ | refine awpOps_cons (g_on rfl rfl rfl (op_ld ty27 rfl rfl rfl)) ?_
  all_goals first | refine awpOps_cons (g_off rfl rfl rfl rfl rfl) ?_ | refine awpOps_cons (g_on rfl rfl rfl (op_fab f39_3 rfl rfl)) ?_
  all_goals first | refine awpOps_cons (g_off rfl rfl rfl rfl rfl) ?_ | refine awpOps_cons (g_on rfl rfl rfl (op_ld ty27 rfl rfl rfl)) ?_
  all_goals first | refine awpOps_cons (g_off rfl rfl rfl rfl rfl) ?_ | refine awpOps_cons (g_on rfl rfl rfl (op_call fb52 (.cons rfl (Conv.of rfl) (.cons rfl (Conv.of rfl) (.nil _))) (lwVotes_ct _ _) (argOk rfl rfl (argOk rfl rfl argOk0)) rfl rfl)) ?_
  all_goals refine awpOps_cons (op_pick rfl rfl rfl rfl) ?_
  all_goals refine awpOps_cons (op_as rfl (Conv.of rfl) rfl) ?_
  all_goals refine awpOps_nil ?_
  all_goals refine awp_ret ?_
  all_goals refine finP (.v rfl (Conv.of rfl)) rfl ?_
  all_goals (obtain ⟨a1, a2, a3, a4⟩ := a; obtain ⟨b1, b2, b3, b4⟩ := b; simp_all [FV.av])
theorem lwHas_ct (l : List Vote) (v : Vote) : CtP Tryz.prog 33 [.v l, .v v] (.v (decide (v ∈ l))) := by
  refine Ct.intro Tryz.func33 rfl rfl ?_
  refine awp_bigL 0 rfl (fun hB => ?_)
  all_goals refine awp_seq (awp_region (id := 0) ?_)
  all_goals refine awpOps_cons (op_box (o := 0) ty48 rfl (Conv.of rfl) rfl rfl) ?_
  all_goals refine awpOps_cons (op_as rfl (Conv.of rfl) rfl) ?_
  all_goals refine awpOps_nil ?_
  all_goals refine awp_seq (awp_seq (awp_region (id := 1) ?_))
  all_goals refine awpOps_cons (op_as rfl (Conv.of rfl) rfl) ?_
  all_goals refine awpOps_nil ?_
  refine awp_block ?_
  refine awp_loop' (fun n s => ∃ (k : Nat), ∃ (hn : n + k = l.length), ∃ (hall : decide (v ∈ l) = decide (v ∈ l.drop k)), s = mkSt 18 [(0, .v l), (3, .box 0 (IsLens.whole Vote)), (5, .v (k : Int))] [(0, .cell v)]) (l.length) ⟨0, by omega, rfl, rfl⟩ (Le.mk rfl (tle rfl (rfl) rfl (tlb rfl rfl rfl (tle rfl (rfl) rfl tln))) (olk rfl (by exact obOk_cell) oln) noS) ?_
  rintro n s ⟨k, hn, hall, rfl⟩
  all_goals refine awp_seq (awp_seq (awp_region (id := 2) ?_))
  all_goals refine awpOps_cons (op_mv rfl (Conv.of rfl) rfl) ?_
  all_goals refine awpOps_cons (op_mv rfl (Conv.of rfl) rfl) ?_
  all_goals refine awpOps_cons (op_len sl27 rfl rfl) ?_
  all_goals refine awpOps_cons (op_lss rfl rfl rfl) ?_
  all_goals refine awpOps_nil ?_
  refine awp_cond rfl (fun h => ?_) (fun h => ?_)
  · have hlt : k < l.length := by simpa using h
    have hx : l[k]? = some l[k] := List.getElem?_eq_getElem hlt
    have hs := mem_take_at (v := v) hx
    refine awp_skip ?_
    refine awp_seq (awp_block ?_)
    all_goals refine awp_seq (dr_start (id := 4) ?_)
    all_goals refine dr_cons (op_mv rfl (Conv.of rfl) rfl) ?_
    all_goals refine dr_cons (op_mv rfl (Conv.of rfl) rfl) ?_
    all_goals refine dr_cons (op_ix sl27 rfl rfl rfl (by omega) hx) ?_
    all_goals refine dr_cons (op_ldr ty48 rfl rfl) ?_
    all_goals refine dr_cons (op_ld ty48 rfl rfl rfl) ?_
    all_goals refine dr_cons (op_call fb73 (.cons rfl (Conv.of rfl) (.cons rfl (Conv.of rfl) (.nil _))) (lwVote_ct _ _) (argOk rfl rfl (argOk rfl rfl argOk0)) rfl rfl) ?_
    all_goals refine dr_nil mixed rfl ?_
    refine awp_cond rfl (fun h => ?_) (fun h => ?_)
    · all_goals refine awp_seq (awp_region (id := 5) ?_)
      all_goals refine awpOps_cons (op_as rfl (Conv.of rfl) rfl) ?_
      all_goals refine awpOps_nil ?_
      refine awp_ret ?_
      repeat first | refine rt_seq ?_ | refine rt_block ?_
      refine finP (.v rfl (Conv.of rfl)) rfl ?_
      show AV.v true = _
      rw [hall, hs, h, Bool.true_or]
    · refine awp_skip ?_
      all_goals refine awp_region (id := 3) ?_
      all_goals refine awpOps_cons (op_mv rfl (Conv.of rfl) rfl) ?_
      all_goals refine awpOps_cons (op_add rfl rfl rfl (by omega)) ?_
      all_goals refine awpOps_cons (op_as rfl (Conv.of rfl) rfl) ?_
      all_goals refine awpOps_nil ?_
      repeat first | refine nx_seq ?_ | refine nx_block ?_
      exact ⟨n - 1, _, by omega, ⟨k + 1, by omega, by rw [hall, hs, h, Bool.false_or], rfl⟩, Le.mk rfl (tle rfl (rfl) rfl (tlb rfl rfl rfl (tle rfl (rfl) rfl tln))) (olk rfl (by exact obOk_cell) oln) noS⟩
  · refine awp_exit ?_
    repeat refine ex_seq ?_
    refine ex_block ?_
    have hk : l.length ≤ k := by simpa using h
    all_goals refine awp_seq (awp_region (id := 6) ?_)
    all_goals refine awpOps_cons (op_as rfl (Conv.of rfl) rfl) ?_
    all_goals refine awpOps_nil ?_
    refine awp_ret ?_
    repeat first | refine rt_seq ?_ | refine rt_block ?_
    refine finP (.v rfl (Conv.of rfl)) rfl ?_
    show AV.v false = _
    rw [hall, drop_end hk]; simp
theorem lwWorld_ct (a b : Wrld) : CtP Tryz.prog 17 [.v a, .v b] (.v (decide (a = b))) := by
  refine Ct.intro Tryz.func17 rfl rfl ?_
  all_goals refine awp_seq (awp_region (id := 0) ?_)
  all_goals refine awpOps_cons (op_box (o := 0) ty29 rfl (Conv.of rfl) rfl rfl) ?_
  all_goals refine awpOps_cons (op_box (o := 1) ty29 rfl (Conv.of rfl) rfl rfl) ?_
  all_goals refine awpOps_cons (op_as rfl (Conv.of rfl) rfl) ?_
  all_goals refine awpOps_nil ?_
  refine awp_seq (awp_seq_to (s' := mkSt 54 [(2, .box 0 (IsLens.whole Wrld)), (3, .box 1 (IsLens.whole Wrld)), (34, .v (!(decide (a.epoch = b.epoch) && decide (a.bad = b.bad) && decide (a.nodes.length = b.nodes.length) && decide (a.log = b.log))))] [(0, .cell a), (1, .cell b)]) ?_ ?_)
  · all_goals refine awp_region (id := 1) ?_
    all_goals refine awpOps_cons (op_fab f29_0 rfl rfl) ?_
    all_goals refine awpOps_cons (op_ld ty3 rfl rfl rfl) ?_
    all_goals refine awpOps_cons (op_fab f29_0 rfl rfl) ?_
    all_goals refine awpOps_cons (op_ld ty3 rfl rfl rfl) ?_
    all_goals refine awpOps_cons (op_neq rfl rfl rfl) ?_
    all_goals refine awpOps_cons (op_mv rfl (Conv.of rfl) rfl) ?_
    all_goals refine g_split (t := 11) rfl (fun h => ?_) (fun h => ?_)
    all_goals first | refine awpOps_cons (g_off rfl rfl rfl rfl rfl) ?_ | refine awpOps_cons (g_on rfl rfl rfl (op_fab f29_3 rfl rfl)) ?_
    all_goals first | refine awpOps_cons (g_off rfl rfl rfl rfl rfl) ?_ | refine awpOps_cons (g_on rfl rfl rfl (op_ld ty3 rfl rfl rfl)) ?_
    all_goals first | refine awpOps_cons (g_off rfl rfl rfl rfl rfl) ?_ | refine awpOps_cons (g_on rfl rfl rfl (op_fab f29_3 rfl rfl)) ?_
    all_goals first | refine awpOps_cons (g_off rfl rfl rfl rfl rfl) ?_ | refine awpOps_cons (g_on rfl rfl rfl (op_ld ty3 rfl rfl rfl)) ?_
    all_goals first | refine awpOps_cons (g_off rfl rfl rfl rfl rfl) ?_ | refine awpOps_cons (g_on rfl rfl rfl (op_neq rfl rfl rfl)) ?_
    all_goals refine awpOps_cons (op_pick rfl rfl rfl rfl) ?_
    all_goals refine awpOps_cons (op_mv rfl (Conv.of rfl) rfl) ?_
    all_goals first | refine g_lit (t := 18) (b := true) rfl ?_ | refine g_split (t := 18) rfl (fun h => ?_) (fun h => ?_)
    all_goals first | refine awpOps_cons (g_off rfl rfl rfl rfl rfl) ?_ | refine awpOps_cons (g_on rfl rfl rfl (op_fab f29_1 rfl rfl)) ?_
    all_goals first | refine awpOps_cons (g_off rfl rfl rfl rfl rfl) ?_ | refine awpOps_cons (g_on rfl rfl rfl (op_ld ty26 rfl rfl rfl)) ?_
    all_goals first | refine awpOps_cons (g_off rfl rfl rfl rfl rfl) ?_ | refine awpOps_cons (g_on rfl rfl rfl (op_len sl26 rfl rfl)) ?_
    all_goals first | refine awpOps_cons (g_off rfl rfl rfl rfl rfl) ?_ | refine awpOps_cons (g_on rfl rfl rfl (op_fab f29_1 rfl rfl)) ?_
    all_goals first | refine awpOps_cons (g_off rfl rfl rfl rfl rfl) ?_ | refine awpOps_cons (g_on rfl rfl rfl (op_ld ty26 rfl rfl rfl)) ?_
    all_goals first | refine awpOps_cons (g_off rfl rfl rfl rfl rfl) ?_ | refine awpOps_cons (g_on rfl rfl rfl (op_len sl26 rfl rfl)) ?_
    all_goals first | refine awpOps_cons (g_off rfl rfl rfl rfl rfl) ?_ | refine awpOps_cons (g_on rfl rfl rfl (op_neq rfl rfl rfl)) ?_
    all_goals refine awpOps_cons (op_pick rfl rfl rfl rfl) ?_
    all_goals refine awpOps_cons (op_mv rfl (Conv.of rfl) rfl) ?_
    all_goals first | refine g_lit (t := 27) (b := true) rfl ?_ | refine g_split (t := 27) rfl (fun h => ?_) (fun h => ?_)
    all_goals first | refine awpOps_cons (g_off rfl rfl rfl rfl rfl) ?_ | refine awpOps_cons (g_on rfl rfl rfl (op_fab f29_2 rfl rfl)) ?_
    all_goals first | refine awpOps_cons (g_off rfl rfl rfl rfl rfl) ?_ | refine awpOps_cons (g_on rfl rfl rfl (op_ld ty27 rfl rfl rfl)) ?_
    all_goals first | refine awpOps_cons (g_off rfl rfl rfl rfl rfl) ?_ | refine awpOps_cons (g_on rfl rfl rfl (op_fab f29_2 rfl rfl)) ?_
    all_goals first | refine awpOps_cons (g_off rfl rfl rfl rfl rfl) ?_ | refine awpOps_cons (g_on rfl rfl rfl (op_ld ty27 rfl rfl rfl)) ?_
    all_goals first | refine awpOps_cons (g_off rfl rfl rfl rfl rfl) ?_ | refine awpOps_cons (g_on rfl rfl rfl (op_call fb52 (.cons rfl (Conv.of rfl) (.cons rfl (Conv.of rfl) (.nil _))) (lwVotes_ct _ _) (argOk rfl rfl (argOk rfl rfl argOk0)) rfl rfl)) ?_
    all_goals first | refine awpOps_cons (g_off rfl rfl rfl rfl rfl) ?_ | refine awpOps_cons (g_on rfl rfl rfl (op_not rfl rfl)) ?_
    all_goals refine awpOps_cons (op_pick rfl rfl rfl rfl) ?_
    all_goals refine awpOps_nil ?_
    all_goals exact Le.mk rfl (tlb rfl rfl rfl (tlb rfl rfl rfl (tle rfl (by (simp_all <;> omega)) rfl tln))) (olk rfl (by exact obOk_cell) (olk rfl (by exact obOk_cell) oln)) noS
  refine awp_cond rfl (fun h => ?_) (fun h => ?_)
  · all_goals refine awp_seq (awp_region (id := 2) ?_)
    all_goals refine awpOps_cons (op_as rfl (Conv.of rfl) rfl) ?_
    all_goals refine awpOps_nil ?_
    refine awp_ret ?_
    repeat first | refine rt_seq ?_ | refine rt_block ?_
    refine finP (.v rfl (Conv.of rfl)) rfl ?_
    show AV.v false = _
    have : a ≠ b := by intro e; subst e; simp at h
    simp [this]
  · have h0 := not_f h
    simp only [Bool.and_eq_true, decide_eq_true_eq] at h0
    obtain ⟨⟨⟨g1, g2⟩, g3⟩, g4⟩ := h0
    have heq : decide (a = b) = decide (a.nodes = b.nodes) := by
      obtain ⟨a1, a2, a3, a4⟩ := a
      obtain ⟨b1, b2, b3, b4⟩ := b
      simp_all
    refine awp_skip ?_
    all_goals refine awp_seq (awp_seq (awp_region (id := 3) ?_))
    all_goals refine awpOps_cons (op_as rfl (Conv.of rfl) rfl) ?_
    all_goals refine awpOps_nil ?_
    refine awp_block ?_
    refine awp_loop' (fun n s => ∃ (k : Nat), ∃ (hn : n + k = a.nodes.length), ∃ (hall : decide (a = b) = decide (a.nodes.drop k = b.nodes.drop k)), s = mkSt 54 [(2, .box 0 (IsLens.whole Wrld)), (3, .box 1 (IsLens.whole Wrld)), (5, .v (k : Int))] [(0, .cell a), (1, .cell b)]) (a.nodes.length) ⟨0, by omega, heq, rfl⟩ (Le.mk rfl (tlb rfl rfl rfl (tlb rfl rfl rfl (tle rfl (rfl) rfl tln))) (olk rfl (by exact obOk_cell) (olk rfl (by exact obOk_cell) oln)) noS) ?_
    rintro n s ⟨k, hn, hall, rfl⟩
    all_goals refine awp_seq (awp_seq (awp_region (id := 4) ?_))
    all_goals refine awpOps_cons (op_mv rfl (Conv.of rfl) rfl) ?_
    all_goals refine awpOps_cons (op_fab f29_1 rfl rfl) ?_
    all_goals refine awpOps_cons (op_ld ty26 rfl rfl rfl) ?_
    refine awpOps_bigL 37 rfl (fun hB => ?_)
    all_goals refine awpOps_cons (op_len sl26 rfl rfl) ?_
    all_goals refine awpOps_cons (op_lss rfl rfl rfl) ?_
    all_goals refine awpOps_nil ?_
    refine awp_cond rfl (fun h => ?_) (fun h => ?_)
    · have hlt : k < a.nodes.length := by simpa using h
      have hx : a.nodes[k]? = some a.nodes[k] := List.getElem?_eq_getElem hlt
      have hy : b.nodes[k]? = some (b.nodes[k]'(by omega)) := List.getElem?_eq_getElem (by omega)
      have hs := same_drop hx hy
      refine awp_skip ?_
      refine awp_seq (awp_block ?_)
      all_goals refine awp_seq (dr_start (id := 6) ?_)
      all_goals refine dr_cons (op_fab f29_1 rfl rfl) ?_
      all_goals refine dr_cons (op_ld ty26 rfl rfl rfl) ?_
      all_goals refine dr_cons (op_mv rfl (Conv.of rfl) rfl) ?_
      all_goals refine dr_cons (op_ix sl26 rfl rfl rfl (by omega) hx) ?_
      all_goals refine dr_cons (op_ldr ty39 rfl rfl) ?_
      all_goals refine dr_cons (op_fab f29_1 rfl rfl) ?_
      all_goals refine dr_cons (op_ld ty26 rfl rfl rfl) ?_
      all_goals refine dr_cons (op_mv rfl (Conv.of rfl) rfl) ?_
      all_goals refine dr_cons (op_ix sl26 rfl rfl rfl (by omega) hy) ?_
      all_goals refine dr_cons (op_ldr ty39 rfl rfl) ?_
      all_goals refine dr_cons (op_call fb53 (.cons rfl (Conv.of rfl) (.cons rfl (Conv.of rfl) (.nil _))) (lwNode_ct _ _) (argOk rfl rfl (argOk rfl rfl argOk0)) rfl rfl) ?_
      all_goals refine dr_cons (op_not rfl rfl) ?_
      all_goals refine dr_nil mixed rfl ?_
      refine awp_cond rfl (fun h => ?_) (fun h => ?_)
      · all_goals refine awp_seq (awp_region (id := 7) ?_)
        all_goals refine awpOps_cons (op_as rfl (Conv.of rfl) rfl) ?_
        all_goals refine awpOps_nil ?_
        refine awp_ret ?_
        repeat first | refine rt_seq ?_ | refine rt_block ?_
        refine finP (.v rfl (Conv.of rfl)) rfl ?_
        show AV.v false = _
        have h' : decide (a.nodes[k] = b.nodes[k]) = false := by simpa using h
        rw [hall, hs, h', Bool.false_and]
      · refine awp_skip ?_
        all_goals refine awp_region (id := 5) ?_
        all_goals refine awpOps_cons (op_mv rfl (Conv.of rfl) rfl) ?_
        all_goals refine awpOps_cons (op_add rfl rfl rfl (by omega)) ?_
        all_goals refine awpOps_cons (op_as rfl (Conv.of rfl) rfl) ?_
        all_goals refine awpOps_nil ?_
        have h' : decide (a.nodes[k] = b.nodes[k]) = true := by simpa using h
        repeat first | refine nx_seq ?_ | refine nx_block ?_
        exact ⟨n - 1, _, by omega, ⟨k + 1, by omega, by rw [hall, hs, h', Bool.true_and], rfl⟩, Le.mk rfl (tlb rfl rfl rfl (tlb rfl rfl rfl (tle rfl (rfl) rfl tln))) (olk rfl (by exact obOk_cell) (olk rfl (by exact obOk_cell) oln)) noS⟩
    · refine awp_exit ?_
      repeat refine ex_seq ?_
      refine ex_block ?_
      have hk : a.nodes.length ≤ k := by simpa using h
      all_goals refine awp_seq (awp_region (id := 8) ?_)
      all_goals refine awpOps_cons (op_as rfl (Conv.of rfl) rfl) ?_
      all_goals refine awpOps_nil ?_
      refine awp_ret ?_
      repeat first | refine rt_seq ?_ | refine rt_block ?_
      refine finP (.v rfl (Conv.of rfl)) rfl ?_
      show AV.v true = _
      rw [hall, drop_end hk, drop_end (by omega : b.nodes.length ≤ k)]
      simp
end Go.Proofs.YtompnmkpgffhkaaGreat

/- From a call's contract to the given row: slices of bytes that come in. -/
set_option linter.unusedVariables false
namespace Go.Wt
open Go Go.ChangeShapes Go.WideShapes Go.RowKit
/-- A slice of bytes that came in. -/
def IsRow (w : World) (a : Option Addr) (len cap : Nat) (zs : List Int) : Prop :=
  (a = none ∧ len = 0 ∧ cap = 0 ∧ zs = []) ∨
  ∃ x, a = some x ∧ len ≤ cap ∧ zs.length = cap ∧ (∀ i, i < zs.length → w.cell? (x.add i) = some (.int .u8 (zs.getD i 0))) ∧ ∀ n ∈ zs, (Lit.int .u8 n).wf = true
def G0 : Gh := ⟨fun _ _ => none, fun _ => none⟩
def codeOf (zs : List Int) (len : Nat) : List UInt8 := (zs.take len).map fun z => UInt8.ofNat z.toNat
theorem codeOf_rd {w : World} {a : Option Addr} {len cap : Nat} {zs : List Int} {ω : Owner} (h : IsRow w a len cap zs) (y : len ≤ 140737488351232) : RelV G0 w ω (.v (codeOf zs len)) (.slice a len cap) := by
  refine ⟨[.slice a len cap], ?_, rfl⟩
  rcases h with ⟨rfl, rfl, rfl, rfl⟩ | ⟨x, rfl, hl, hz, hc, hw⟩
  · exact ⟨none, 0, rfl, Nat.le_refl _, .inl rfl⟩
  · have hlen : (codeOf zs len).length = len := by simp [codeOf]; omega
    refine ⟨some x, cap, by rw [hlen], by rw [hlen]; exact hl, ?_⟩
    by_cases h0 : len = 0
    · left; exact List.eq_nil_of_length_eq_zero (by omega)
    · right
      obtain ⟨b, off, spot⟩ := x
      have h1 := hc 0 (by omega)
      have hsp : spot = none := by
        cases spot with
        | none => rfl
        | some s =>
          exfalso
          simp only [Addr.add, if_true, World.cell?] at h1
          split at h1 <;> simp at h1
      subst hsp
      refine ⟨b, off, rfl, by rw [hlen]; show len ≤ 4611686018427387904; omega, fun i u hu => ?_⟩
      have hi : i < len := by have := getElem?_lt hu; omega
      have hiz : i < zs.length := by omega
      have hu' : u = UInt8.ofNat (zs.getD i 0).toNat := by
        unfold codeOf at hu
        rw [List.getElem?_map, List.getElem?_take, if_pos hi, List.getElem?_eq_getElem hiz] at hu
        simp at hu
        rw [← hu, List.getD_eq_getElem?_getD, List.getElem?_eq_getElem hiz]; rfl
      have hwf := hw (zs.getD i 0) (by
        rw [List.getD_eq_getElem?_getD, List.getElem?_eq_getElem hiz]; exact List.getElem_mem hiz)
      have hn : ((u.toNat : Nat) : Int) = zs.getD i 0 := by
        have hb : 0 ≤ zs.getD i 0 ∧ zs.getD i 0 < 256 := by
          have hh : 0 ≤ zs.getD i 0 ∧ zs.getD i 0 ≤ 255 := by simpa [Lit.wf, IntKind.min, IntKind.max, IntKind.signed, IntKind.bits] using hwf
          omega
        rw [hu']
        have : (UInt8.ofNat (zs.getD i 0).toNat).toNat = (zs.getD i 0).toNat := by
          rw [UInt8.toNat_ofNat']; omega
        rw [this]; omega
      refine ⟨[.int .u8 u.toNat], rfl, fun j v hj => ?_⟩
      have hj0 : j = 0 := by
        have := getElem?_lt hj
        simp at this; exact this
      subst hj0
      simp at hj
      subst hj
      refine ⟨rfl, ?_⟩
      have h2 := hc i hiz
      have e : (⟨b, off, none⟩ : Addr).add i = ⟨b, off + i, none⟩ := add_lit b off i
      rw [e] at h2
      show cl w b (off + i * 1 + 0) = _
      rw [Nat.mul_one, Nat.add_zero]
      show w.cell? ⟨b, off + i, none⟩ = _
      rw [h2, hn]
theorem keep_below {S : Nat → Prop} {w w' : World} {G' : Gh} (h : Keep S G0 w G' w') : Below w.heap.size w w' :=
  ⟨h.os, h.tape, h.output, h.size, fun k hk => h.block k hk fun _ _ _ => .inl rfl⟩
theorem row_bool {P : Program} {f : FuncId} {args : List AV} {vs : List Value} {w : World} (h : CtP P f args (.v true)) (hr : RelAs G0 w 0 args vs) :
    Calls P f vs.toArray w fun e w' => e = .returned (.bool true) ∧ Below w.heap.size w w' :=
  (h G0 w vs hr fun o => rfl).mono fun e w' ⟨r, h', v, G', e1, ⟨e2, e3⟩, e4, e5, e6⟩ => by
    subst e2
    exact ⟨by rw [e1, RelV.bool e4], keep_below e6⟩
theorem row1 {P : Program} {f : FuncId} (h : ∀ code : List UInt8, CtP P f [.v code] (.v true)) {a : Option Addr} {len cap : Nat} {zs : List Int} (w : World) (hr : IsRow w a len cap zs) (y : len ≤ 140737488351232) :
    Calls P f #[.slice a len cap] w fun e w' => e = .returned (.bool true) ∧ Below w.heap.size w w' :=
  row_bool (vs := [_]) (h (codeOf zs len)) ⟨_, _, rfl, codeOf_rd hr y, rfl⟩
theorem row2 {P : Program} {f : FuncId} (h : ∀ code more : List UInt8, CtP P f [.v code, .v more] (.v true)) {a a2 : Option Addr} {len cap len2 cap2 : Nat} {zs zs2 : List Int} (w : World) (hr : IsRow w a len cap zs) (y : len ≤ 140737488351232)
    (hr2 : IsRow w a2 len2 cap2 zs2) (y2 : len2 ≤ 140737488351232) : Calls P f #[.slice a len cap, .slice a2 len2 cap2] w fun e w' => e = .returned (.bool true) ∧ Below w.heap.size w w' :=
  row_bool (vs := [_, _]) (h (codeOf zs len) (codeOf zs2 len2)) ⟨_, _, rfl, codeOf_rd hr y, _, _, rfl, codeOf_rd hr2 y2, rfl⟩
/-- What came in is read. -/
theorem rowOf {H : Type} {enc : TypeId × Value → H} {P : Program} {W : World} {base : Nat} {spare : Nat → Bool} {held : Bool} {t e : TypeId} {a : Option Addr} {len cap : Nat} {d : DataW H} {ps : List MemPlace} (hsp : ∀ b, spare b = true)
    (hu : P.underlying t = some (.slice e)) (he : P.underlying e = some (.int .u8)) (hc : P.cellsOf e = 1) (h : DataW.Trod enc P W base spare held t (.slice a len cap) d ps) : ∃ zs, IsRow W a len cap zs := by
  obtain ⟨fuel, hf⟩ := h
  rcases open_ints hu he hc hf with ⟨hcs, _⟩ | ⟨x, l, c, zs, hcs, _, hl, hm, hz, _, hcell, hwz⟩
  · simp [Value.cells] at hcs
    obtain ⟨rfl, rfl, rfl⟩ := hcs
    exact ⟨[], .inl ⟨rfl, rfl, rfl, rfl⟩⟩
  · simp [Value.cells] at hcs
    obtain ⟨rfl, rfl, rfl⟩ := hcs
    rw [if_pos (hsp _)] at hz
    exact ⟨zs, .inr ⟨_, rfl, hl, hz, hcell, hwz⟩⟩
theorem lenOf {H : Type} {enc : TypeId × Value → H} {P : Program} {W : World} {base : Nat} {spare : Nat → Bool} {held : Bool} {t e : TypeId} {a : Option Addr} {len cap : Nat} {d : DataW H} {ps : List MemPlace} {ts : List TypeId} {ds : List (DataW H)} {j : Nat}
    (hsz : (DataW.weightsEach P ts ds).all (· ≤ reachBytes) = true) (ht : ts[j]? = some t) (hd : ds[j]? = some d) (hu : P.underlying t = some (.slice e)) (he : P.underlying e = some (.int .u8)) (hc : P.cellsOf e = 1) (hB : P.bytesOf e = 1)
    (h : DataW.Trod enc P W base spare held t (.slice a len cap) d ps) : len ≤ 140737488351232 := by
  obtain ⟨fuel, hf⟩ := h
  rcases open_ints hu he hc hf with ⟨hcs, _⟩ | ⟨x, l, c, zs, hcs, _, hl, _, hz, hx, _, _⟩
  · simp [Value.cells] at hcs
    omega
  · simp [Value.cells] at hcs
    obtain ⟨rfl, rfl, rfl⟩ := hcs
    obtain ⟨hx, _⟩ := Prod.mk.inj hx
    subst hx
    have z := sized_slice hsz ht hd hu
    rw [hB] at z
    have hl2 : len ≤ zs.length := by
      rw [hz]
      split
      · exact hl
      · exact Nat.le_refl _
    simp only [lits, List.length_map, List.length_take, List.length_drop] at z
    have hr : reachBytes = 140737488351232 := rfl
    omega
end Go.Wt

/- Plays, as both have them. -/
set_option linter.unusedVariables false
set_option linter.unusedSimpArgs false
namespace Go.Proofs.YtompnmkpgffhkaaGreat
open Go Go.Wt
/-- A play, with its answer. -/
def playR (bad : Int) (evs : List Evt) : Wrld × Bool := if within bad 0 4 && decide (evs.length ≤ 70) then (playF bad evs, true) else (Wrld.zero, false)
theorem rd_zA {G : Gh} {w : Go.World} {ω : Owner} {cs : List Value} (h : Enc.rd G w ω WrldA.zero cs) : Enc.rd G w ω Wrld.zero cs := by
  obtain ⟨c1, c2, rfl, r1, ⟨c3, c4, rfl, r3, r4⟩⟩ := h
  exact ⟨c1, _, rfl, r1, c3, _, rfl, ⟨none, 0, r3, Nat.le_refl _, .inl rfl⟩, r4⟩
theorem rd_zS {G : Gh} {w : Go.World} {ω : Owner} {cs : List Value} (h : Enc.rd G w ω WrldS.zero cs) : Enc.rd G w ω Wrld.zero cs := by
  obtain ⟨c1, c2, rfl, r1, ⟨c3, c4, rfl, r3, ⟨c5, c6, rfl, ⟨a, cap, h1, h2, h3, h4⟩, r6⟩⟩⟩ := h
  exact ⟨c1, _, rfl, r1, c3, _, rfl, ⟨none, 0, r3, Nat.le_refl _, .inl rfl⟩, c5, c6, rfl, ⟨a, cap, h1, h2, h3⟩, r6⟩
theorem tup_zA {G : Gh} {w : Go.World} {ω : Owner} {u : Value} {b : Bool} (h : RelV G w ω (.tup [.v WrldA.zero, .v b]) u) : RelV G w ω (.tup [.v Wrld.zero, .v b]) u := by
  obtain ⟨us, e0, u1, r1, e1, ⟨cs, h1, h2⟩, h3⟩ := h
  exact ⟨us, e0, u1, r1, e1, ⟨cs, rd_zA h1, h2⟩, h3⟩
theorem tup_zS {G : Gh} {w : Go.World} {ω : Owner} {u : Value} {b : Bool} (h : RelV G w ω (.tup [.v WrldS.zero, .v b]) u) : RelV G w ω (.tup [.v Wrld.zero, .v b]) u := by
  obtain ⟨us, e0, u1, r1, e1, ⟨cs, h1, h2⟩, h3⟩ := h
  exact ⟨us, e0, u1, r1, e1, ⟨cs, rd_zS h1, h2⟩, h3⟩
theorem big4 {w : Wrld} (h : w.nodes.length = 4) : w.nodes.length ≤ big := by rw [h]; decide
theorem play4 (bad : Int) (evs : List Evt) : (playF bad evs).nodes.length = 4 := (foldl_ok evs (newW_ok bad)).four
theorem iPlay_ct (bad : Int) (evs : List Evt) : CtP Tryz.prog 15 [.v bad, .v evs] (.tup [.v (playR bad evs).1, .v (playR bad evs).2]) := by
  unfold playR
  cases hb : within bad 0 4 with
  | false => exact Ct.res (playBad_ct bad evs hb) fun G w u h => tup_zA h
  | true =>
    by_cases hl : evs.length ≤ 70
    · simp only [hl, decide_true, Bool.and_self, if_true]
      exact Ct.frz (playA_ct bad evs hb hl) (frz_ok (big4 (play4 bad evs)))
    · simp only [hl, decide_false, Bool.and_false]
      exact Ct.res (playLong_ct bad evs hb (by omega)) fun G w u h => tup_zA h
theorem sWorldNewBad_ct (bad : Int) (hb : within bad 0 4 = false) : CtP Tryz.prog 50 [.v bad] (.tup [.v WrldS.zero, .v false]) := by
  refine Ct.intro Tryz.func50 rfl rfl ?_
  all_goals refine awp_seq (awp_region (id := 0) ?_)
  all_goals refine awpOps_cons (op_alloc (o := 5) z29_WrldS rfl rfl) ?_
  all_goals refine awpOps_cons (op_as rfl (Conv.of rfl) rfl) ?_
  all_goals refine awpOps_nil ?_
  all_goals refine awp_seq (awp_seq (awp_region (id := 1) ?_))
  all_goals refine awpOps_cons (op_mv rfl (Conv.of rfl) rfl) ?_
  all_goals refine awpOps_cons (op_call fb84 (.cons rfl (Conv.of rfl) (.cons rfl (Conv.of rfl) (.cons rfl (Conv.of rfl) (.nil _)))) (l6In_ct _ _ _) (argOk rfl rfl (argOk rfl rfl (argOk rfl rfl argOk0))) rfl rfl) ?_
  all_goals refine awpOps_cons (op_not rfl rfl) ?_
  all_goals refine awpOps_nil ?_
  refine awp_cond rfl (fun h => ?_) (fun h => absurd (not_f h) (by rw [hb]; decide))
  all_goals refine awp_seq (awp_region (id := 2) ?_)
  all_goals refine awpOps_cons (op_build (.nil _) z29_WrldS rfl pl29 rfl) ?_
  all_goals refine awpOps_cons (op_stm ty29_WrldS rfl rfl rfl) ?_
  all_goals refine awpOps_cons (op_as rfl (Conv.of rfl) rfl) ?_
  all_goals refine awpOps_nil ?_
  refine awp_ret ?_
  repeat first | refine rt_seq ?_ | refine rt_block ?_
  exact ⟨_, _, resNM (ol := []) (.cell ty29_WrldS rfl rfl (.keep (.v rfl (Conv.of rfl)) (.nil _))) rfl (fun o ho => absurd (show o ∈ ([] : List Nat) from ho) (by simp)) oln noS, rfl, rfl⟩
theorem sPlayBad_ct (bad : Int) (evs : List Evt) (hb : within bad 0 4 = false) : CtP Tryz.prog 16 [.v bad, .v evs] (.tup [.v WrldS.zero, .v false]) := by
  refine Ct.intro Tryz.func16 rfl rfl ?_
  all_goals refine awp_seq (awp_region (id := 0) ?_)
  all_goals refine awpOps_cons (op_alloc (o := 5) z29_WrldS rfl rfl) ?_
  all_goals refine awpOps_cons (op_as rfl (Conv.of rfl) rfl) ?_
  all_goals refine awpOps_nil ?_
  all_goals refine awp_seq (awp_region (id := 1) ?_)
  all_goals refine awpOps_cons (op_mv rfl (Conv.of rfl) rfl) ?_
  all_goals refine awpOps_cons (op_call fb50 (.cons rfl (Conv.of rfl) (.nil _)) (sWorldNewBad_ct bad hb) (argOk rfl rfl argOk0) rfl rfl) ?_
  all_goals refine awpOps_cons (op_mvo rfl rfl rfl rfl) ?_
  all_goals refine awpOps_cons (op_extm rfl rfl rfl rfl) ?_
  all_goals refine awpOps_cons (op_ext rfl rfl rfl) ?_
  all_goals refine awpOps_cons (op_alloc (o := 0) z29_WrldS rfl rfl) ?_
  all_goals refine awpOps_cons (op_stm ty29_WrldS rfl rfl rfl) ?_
  all_goals refine awpOps_cons (op_as rfl (Conv.of rfl) rfl) ?_
  all_goals refine awpOps_nil ?_
  all_goals refine awp_seq (awp_seq (awp_region (id := 2) ?_))
  all_goals refine awpOps_cons (op_mv rfl (Conv.of rfl) rfl) ?_
  all_goals refine awpOps_cons (op_not rfl rfl) ?_
  all_goals refine awpOps_cons (op_mv rfl (Conv.of rfl) rfl) ?_
  all_goals refine g_lit (t := 16) (b := true) rfl ?_
  all_goals refine awpOps_cons (g_off rfl rfl rfl rfl rfl) ?_
  all_goals refine awpOps_cons (g_off rfl rfl rfl rfl rfl) ?_
  all_goals refine awpOps_cons (g_off rfl rfl rfl rfl rfl) ?_
  all_goals refine awpOps_cons (op_pick rfl rfl rfl rfl) ?_
  all_goals refine awpOps_nil ?_
  refine awp_cond rfl (fun h => ?_) (fun h => absurd h (by decide))
  all_goals refine awp_seq (awp_region (id := 3) ?_)
  all_goals refine awpOps_cons (op_build (.nil _) z29_WrldS rfl pl29 rfl) ?_
  all_goals refine awpOps_cons (op_stm ty29_WrldS rfl rfl rfl) ?_
  all_goals refine awpOps_cons (op_as rfl (Conv.of rfl) rfl) ?_
  all_goals refine awpOps_nil ?_
  refine awp_ret ?_
  repeat first | refine rt_seq ?_ | refine rt_block ?_
  exact ⟨_, _, resNM (ol := []) (.cell ty29_WrldS rfl rfl (.keep (.v rfl (Conv.of rfl)) (.nil _))) rfl (fun o ho => absurd (show o ∈ ([] : List Nat) from ho) (by simp)) oln noS, rfl, rfl⟩
theorem sPlayLong_ct (bad : Int) (evs : List Evt) (hb : within bad 0 4 = true) (hl : 70 < evs.length) : CtP Tryz.prog 16 [.v bad, .v evs] (.tup [.v WrldS.zero, .v false]) := by
  refine Ct.intro Tryz.func16 rfl rfl ?_
  all_goals refine awp_seq (awp_region (id := 0) ?_)
  all_goals refine awpOps_cons (op_alloc (o := 5) z29_WrldS rfl rfl) ?_
  all_goals refine awpOps_cons (op_as rfl (Conv.of rfl) rfl) ?_
  all_goals refine awpOps_nil ?_
  all_goals refine awp_seq (awp_region (id := 1) ?_)
  all_goals refine awpOps_cons (op_mv rfl (Conv.of rfl) rfl) ?_
  refine awpOps_callO [] rfl fb50 (.cons rfl (Conv.of rfl) (.nil _)) (sWorldNew_w bad hb) ols0 oks0 (argOk' rfl rfl argO0) rfl ?_
  rintro r h' ⟨rfl, rfl⟩
  refine ⟨so (newW bad), rfl, (fun o ho => by cases ho), fun o ho _ => ?_, oksk obOkNs oks0, fun o ho => ?_, ?_⟩
  · have : o = 1 := by simpa [keys, lk0] using ho
    subst this; rfl
  · have : o = 1 := by simpa using (show o ∈ [1] from ho)
    subst this; rfl
  all_goals refine awpOps_cons (op_mvo rfl rfl rfl rfl) ?_
  all_goals refine awpOps_cons (op_extm rfl rfl rfl rfl) ?_
  all_goals refine awpOps_cons (op_ext rfl rfl rfl) ?_
  all_goals refine awpOps_cons (op_alloc (o := 0) z29_WrldS rfl rfl) ?_
  all_goals refine awpOps_cons (op_stm ty29_WrldS rfl rfl rfl) ?_
  all_goals refine awpOps_cons (op_as rfl (Conv.of rfl) rfl) ?_
  all_goals refine awpOps_nil ?_
  all_goals refine awp_seq (awp_seq (awp_region (id := 2) ?_))
  all_goals refine awpOps_cons (op_mv rfl (Conv.of rfl) rfl) ?_
  all_goals refine awpOps_cons (op_not rfl rfl) ?_
  all_goals refine awpOps_cons (op_mv rfl (Conv.of rfl) rfl) ?_
  all_goals refine g_lit (t := 16) (b := false) rfl ?_
  all_goals refine awpOps_cons (g_on rfl rfl rfl (op_mv rfl (Conv.of rfl) rfl)) ?_
  all_goals refine awpOps_cons (g_on rfl rfl rfl (op_len sl23 rfl rfl)) ?_
  all_goals refine awpOps_cons (g_on rfl rfl rfl (op_gtr rfl rfl rfl)) ?_
  all_goals refine awpOps_cons (op_pick rfl rfl rfl rfl) ?_
  all_goals refine awpOps_nil ?_
  refine awp_cond rfl (fun h => ?_) (fun h => ?_)
  · all_goals refine awp_seq (awp_region (id := 3) ?_)
    all_goals refine awpOps_cons (op_build (.nil _) z29_WrldS rfl pl29 rfl) ?_
    all_goals refine awpOps_cons (op_stm ty29_WrldS rfl rfl rfl) ?_
    all_goals refine awpOps_cons (op_as rfl (Conv.of rfl) rfl) ?_
    all_goals refine awpOps_nil ?_
    refine awp_ret ?_
    repeat first | refine rt_seq ?_ | refine rt_block ?_
    exact ⟨_, _, resNM (ol := []) (.cell ty29_WrldS rfl rfl (.keep (.v rfl (Conv.of rfl)) (.nil _))) rfl (fun o ho => absurd (show o ∈ ([] : List Nat) from ho) (by simp)) oln noS, rfl, rfl⟩
  · exfalso
    simp at h
    omega
theorem sPlayR_ct (bad : Int) (evs : List Evt) : CtP Tryz.prog 16 [.v bad, .v evs] (.tup [.v (playR bad evs).1, .v (playR bad evs).2]) := by
  unfold playR
  cases hb : within bad 0 4 with
  | false => exact Ct.res (sPlayBad_ct bad evs hb) fun G w u h => tup_zS h
  | true =>
    by_cases hl : evs.length ≤ 70
    · simp only [hl, decide_true, Bool.and_self, if_true]
      exact sPlay_ct bad evs hb hl
    · simp only [hl, decide_false, Bool.and_false]
      exact Ct.res (sPlayLong_ct bad evs hb (by omega)) fun G w u h => tup_zS h
theorem playR_ok {bad : Int} {evs : List Evt} (h : (playR bad evs).2 = true) : within bad 0 4 = true ∧ evs.length ≤ 70 ∧ (playR bad evs).1 = playF bad evs := by
  unfold playR at h ⊢
  split at h
  · rename_i hh
    simp only [Bool.and_eq_true, decide_eq_true_eq] at hh
    rw [if_pos (by simp [hh.1, hh.2])]
    exact ⟨hh.1, hh.2, rfl⟩
  · cases h
end Go.Proofs.YtompnmkpgffhkaaGreat

/- What stays so in a world, whatever one does. -/
set_option linter.unusedVariables false
set_option linter.unusedSimpArgs false
namespace Go.Wt
/-- What stays so of a node, at place `k`. -/
structure NInv (ep bad : Int) (log : List Vote) (k : Nat) (n : Nod) : Prop where
  id : n.id = (k : Int) + 1
  ep : n.epoch = ep
  idle : n.id = bad → n.seen = []
  sub : n.id ≠ bad → ∀ v ∈ n.seen, v ∈ log
  own : n.id ≠ bad → ∀ v ∈ log, v.by_ = n.id → v ∈ n.seen
  one : ∀ u ∈ n.seen, ∀ v ∈ n.seen, u.by_ = n.id → v.by_ = n.id → lastEp u.chain = lastEp v.chain → u = v
  long : ∀ u ∈ n.seen, ∀ v ∈ n.seen, u.by_ = n.id → v.by_ = n.id → lastEp u.chain < lastEp v.chain → u.chain.length ≤ v.chain.length
  tip : ∀ v ∈ n.seen, v.by_ = n.id → v.chain.length ≤ (tipOf n.seen).length + 1
  behind : ∀ v ∈ n.seen, v.by_ = n.id → sure n.seen (v.chain.take (v.chain.length - 1)) = true
  lead : ∀ v ∈ n.seen, v.by_ = n.id → Vote.mk (leader (lastEp v.chain)) v.chain ∈ n.seen
structure Inv (w : Wrld) : Prop where
  ok : FineX w
  bad : within w.bad 0 4 = true
  nodes : ∀ (k : Nat) (n : Nod), w.nodes[k]? = some n → NInv w.epoch w.bad w.log k n
  ord : ∀ (i : Nat) (v : Vote), w.log[i]? = some v → v.by_ ≠ w.bad → Vote.mk (leader (lastEp v.chain)) v.chain ∈ w.log.take (i + 1)

/-- More votes are sent, none by this node. -/
theorem NInv.more {ep bad : Int} {log log' : List Vote} {k : Nat} {n : Nod} (h : NInv ep bad log k n) (hs : ∀ v ∈ log, v ∈ log') (ho : n.id ≠ bad → ∀ v ∈ log', v.by_ = n.id → v ∈ log) : NInv ep bad log' k n :=
  ⟨h.id, h.ep, h.idle, fun hb v hv => hs v (h.sub hb v hv), fun hb v hv hby => h.own hb v (ho hb v hv hby) hby, h.one, h.long, h.tip, h.behind, h.lead⟩
theorem NInv.see {ep bad : Int} {log : List Vote} {k : Nat} {n : Nod} {v : Vote} (h : NInv ep bad log k n) (hb : n.id ≠ bad) (hv : v ∈ log) (hby : v.by_ ≠ n.id) : NInv ep bad log k (seeF n v) := by
  unfold seeF
  split
  · exact h
  · have hm : ∀ u ∈ n.seen, u ∈ n.seen ++ [v] := fun u hu => List.mem_append_left _ hu
    have hold : ∀ u ∈ n.seen ++ [v], u.by_ = n.id → u ∈ n.seen := fun u hu hub => by
      rcases List.mem_append.1 hu with hu | hu
      · exact hu
      · simp at hu; subst hu; exact absurd hub hby
    refine ⟨h.id, h.ep, fun e => absurd e hb, fun _ u hu => ?_, fun hb' u hu hub => hm u (h.own hb' u hu hub), fun u hu u' hu' h1 h2 => h.one u (hold u hu h1) u' (hold u' hu' h2) h1 h2,
      fun u hu u' hu' h1 h2 => h.long u (hold u hu h1) u' (hold u' hu' h2) h1 h2, fun u hu h1 => ?_, fun u hu h1 => sure_mono hm (h.behind u (hold u hu h1) h1), fun u hu h1 => hm _ (h.lead u (hold u hu h1) h1)⟩
    · rcases List.mem_append.1 hu with hu | hu
      · exact h.sub hb u hu
      · simp at hu; subst hu; exact hv
    · have := h.tip u (hold u hu h1) h1
      have := tip_mono hm
      show u.chain.length ≤ (tipOf (n.seen ++ [v])).length + 1
      omega
theorem Inv.set {w : Wrld} {k : Nat} {m : Nod} (h : Inv w) (hk : k < w.nodes.length) (hm : NInv w.epoch w.bad w.log k m) (ho : nodeOk m = true) : Inv { w with nodes := w.nodes.set k m } := by
  refine ⟨setF_ok h.ok ho, h.bad, fun j n hj => ?_, h.ord⟩
  by_cases e : j = k
  · subst e
    rw [List.getElem?_set_self hk] at hj
    injection hj with hj
    subst hj
    exact hm
  · rw [List.getElem?_set_ne (Ne.symm e)] at hj
    exact h.nodes j n hj
/-- What it takes to vote for a chain. -/
structure May (n : Nod) (c : List Itm) : Prop where
  may : mayN n = true
  last : lastEp c = n.epoch
  len : c.length = (tipOf n.seen).length + 1
  sure : sure n.seen (c.take (c.length - 1)) = true
  ok : chainOk c = true
  lead : Vote.mk (leader n.epoch) c ∈ n.seen ++ [Vote.mk n.id c]
theorem voteF_yes {n : Nod} {c : List Itm} (h : n.seen.length < 80) : voteF n c = ({ n with voted := n.epoch, seen := n.seen ++ [⟨n.id, c⟩] }, ⟨n.id, c⟩, true) := by
  unfold voteF; rw [if_neg (by simpa using h)]
theorem voteF_no {n : Nod} {c : List Itm} (h : ¬ n.seen.length < 80) : voteF n c = (n, .zero, false) := by
  unfold voteF; rw [if_pos (by simp; omega)]
theorem set_self {w : Wrld} {k : Nat} {n : Nod} (hn : w.nodes[k]? = some n) : { w with nodes := w.nodes.set k n } = w := by
  have : w.nodes.set k n = w.nodes := by
    obtain ⟨h1, h2⟩ := List.getElem?_eq_some_iff.1 hn
    rw [← h2, List.set_getElem_self]
  rw [this]
theorem Inv.vote {w : Wrld} {k : Nat} {n : Nod} {c : List Itm} (h : Inv w) (hn : w.nodes[k]? = some n) (hb : n.id ≠ w.bad) (hl : w.log.length < 80) (hm : May n c) : Inv (putF w k (voteF n c)) := by
  have hN := h.nodes k n hn
  have hno := h.ok.nodes n (List.mem_of_getElem? hn)
  have hk : k < w.nodes.length := (List.getElem?_eq_some_iff.1 hn).1
  by_cases hs : n.seen.length < 80
  · have hno' := voteF_ok hno (by have := hm.len; omega) hm.ok hm.may hm.last
    rw [voteF_yes hs] at hno' ⊢
    obtain ⟨⟨g1, g2, g3, g4, g5⟩, g6⟩ := nodeOk_iff.1 hno
    have hmay := hm.may
    simp only [mayN, Bool.and_eq_true, decide_eq_true_eq, bne_iff_ne] at hmay
    have hlt : n.voted < n.epoch := by have := hmay.2; omega
    have hnew : Vote.mk n.id c ∉ n.seen := fun hh => by
      have := g6 _ hh rfl
      simp only [hm.last] at this
      omega
    have hnewL : Vote.mk n.id c ∉ w.log := fun hh => hnew (hN.own hb _ hh rfl)
    have hsend : putF w k ({ n with voted := n.epoch, seen := n.seen ++ [⟨n.id, c⟩] }, ⟨n.id, c⟩, true) = { w with nodes := w.nodes.set k { n with voted := n.epoch, seen := n.seen ++ [⟨n.id, c⟩] }, log := w.log ++ [⟨n.id, c⟩] } := by
      simp only [putF, if_true, sendF, hnewL, hl, decide_false, decide_true, Bool.not_false, Bool.and_self]
    have hfx := putF_ok (k := k) (x := ({ n with voted := n.epoch, seen := n.seen ++ [⟨n.id, c⟩] }, ⟨n.id, c⟩, true)) h.ok hno'.1 hno'.2
    rw [hsend] at hfx ⊢
    have hmS : ∀ u ∈ n.seen, u ∈ n.seen ++ [Vote.mk n.id c] := fun u hu => List.mem_append_left _ hu
    have hmL : ∀ u ∈ w.log, u ∈ w.log ++ [Vote.mk n.id c] := fun u hu => List.mem_append_left _ hu
    have htip := tip_mono hmS
    refine ⟨hfx, h.bad, fun j m hj => ?_, fun i v hi hv => ?_⟩
    · by_cases e : j = k
      · subst e
        rw [List.getElem?_set_self hk] at hj
        injection hj with hj
        subst hj
        refine ⟨hN.id, hN.ep, fun e => absurd e hb, fun _ v hv => ?_, fun _ v hv hby => ?_, fun u hu v hv hu1 hv1 he => ?_, fun u hu v hv hu1 hv1 he => ?_, fun v hv h1 => ?_, fun v hv h1 => ?_, fun v hv h1 => ?_⟩
        · rcases List.mem_append.1 hv with hv | hv
          · exact hmL v (hN.sub hb v hv)
          · exact List.mem_append_right _ hv
        · rcases List.mem_append.1 hv with hv | hv
          · exact hmS v (hN.own hb v hv hby)
          · exact List.mem_append_right _ hv
        · rcases List.mem_append.1 hu with hu | hu <;> rcases List.mem_append.1 hv with hv | hv
          · exact hN.one u hu v hv hu1 hv1 he
          · simp at hv; subst hv
            have := g6 u hu hu1
            have := hm.last
            simp only at he
            omega
          · simp at hu; subst hu
            have := g6 v hv hv1
            have := hm.last
            simp only at he
            omega
          · simp at hu hv; rw [hu, hv]
        · rcases List.mem_append.1 hu with hu | hu <;> rcases List.mem_append.1 hv with hv | hv
          · exact hN.long u hu v hv hu1 hv1 he
          · simp at hv; subst hv
            have := hN.tip u hu hu1
            have := hm.len
            show u.chain.length ≤ c.length
            omega
          · simp at hu; subst hu
            have := g6 v hv hv1
            have := hm.last
            simp only at he
            omega
          · simp at hu hv; subst hu; subst hv; exact Nat.le_refl _
        · show v.chain.length ≤ (tipOf (n.seen ++ [Vote.mk n.id c])).length + 1
          rcases List.mem_append.1 hv with hv | hv
          · have := hN.tip v hv h1
            omega
          · simp at hv; subst hv
            have := hm.len
            show c.length ≤ _
            omega
        · rcases List.mem_append.1 hv with hv | hv
          · exact sure_mono hmS (hN.behind v hv h1)
          · simp at hv; subst hv
            exact sure_mono hmS hm.sure
        · rcases List.mem_append.1 hv with hv | hv
          · exact hmS _ (hN.lead v hv h1)
          · simp at hv; subst hv
            show Vote.mk (leader (lastEp c)) c ∈ n.seen ++ [Vote.mk n.id c]
            rw [hm.last]; exact hm.lead
      · rw [List.getElem?_set_ne (Ne.symm e)] at hj
        have hM := h.nodes j m hj
        refine hM.more hmL fun _ v hv hby => ?_
        rcases List.mem_append.1 hv with hv | hv
        · exact hv
        · simp at hv; subst hv
          have h1 := hM.id
          have h2 := hN.id
          simp only at hby
          omega
    · have hi' : (w.log ++ [Vote.mk n.id c])[i]? = some v := hi
      show Vote.mk (leader (lastEp v.chain)) v.chain ∈ (w.log ++ [Vote.mk n.id c]).take (i + 1)
      rcases Nat.lt_or_ge i w.log.length with hlt' | hge
      · rw [List.getElem?_append_left hlt'] at hi'
        rw [List.take_append_of_le_length (by omega)]
        exact h.ord i v hi' hv
      · rw [List.getElem?_append_right hge] at hi'
        have h0 : i - w.log.length = 0 := by
          have := (List.getElem?_eq_some_iff.1 hi').1
          simp at this; exact this
        rw [h0] at hi'
        simp at hi'
        subst hi'
        rw [List.take_of_length_le (by simp; omega)]
        have := hm.lead
        show Vote.mk (leader (lastEp c)) c ∈ _
        rw [hm.last]
        rcases List.mem_append.1 this with hh | hh
        · exact hmL _ (hN.sub hb _ hh)
        · exact List.mem_append_right _ hh
  · rw [voteF_no hs]
    simp only [putF]
    rw [if_neg (by decide), set_self hn]
    exact h
theorem Inv.idle {w : Wrld} {k : Nat} {n : Nod} (h : Inv w) (hn : w.nodes[k]? = some n) : Inv (putF w k (n, .zero, false)) := by
  simp only [putF]
  rw [if_neg (by decide), set_self hn]
  exact h
theorem propose_cases (n : Nod) (p : Pay) : proposeF n p = (n, .zero, false) ∨ ∃ c, May n c ∧ proposeF n p = voteF n c := by
  unfold proposeF
  split
  · rename_i hh
    simp only [Bool.and_eq_true, decide_eq_true_eq] at hh
    refine .inr ⟨_, ⟨hh.1.1, lastEp_snoc _ _, by simp, ?_, hh.2, ?_⟩, rfl⟩
    · have : (tipOf n.seen ++ [Itm.mk n.epoch p]).take ((tipOf n.seen ++ [Itm.mk n.epoch p]).length - 1) = tipOf n.seen := by simp
      rw [this]; exact tip_sure _
    · rw [hh.1.2]; simp
  · exact .inl rfl
theorem try_cases (n : Nod) (hm : mayN n = true) (ho : ∀ v ∈ n.seen, voteOk v = true) : ∀ l : List Vote, (∀ v ∈ l, v ∈ n.seen) → tryF n l = (n, .zero, false) ∨ ∃ c, May n c ∧ tryF n l = voteF n c
  | [], _ => .inl rfl
  | u :: r, h => by
    simp only [tryF]
    split
    · rename_i hf
      simp only [fits, Bool.and_eq_true, decide_eq_true_eq] at hf
      have hu := h u (by simp)
      refine .inr ⟨u.chain, ⟨hm, hf.1.1.2, hf.1.2, hf.2, voteOk_chain (ho u hu), ?_⟩, rfl⟩
      refine List.mem_append_left _ ?_
      have : Vote.mk (leader n.epoch) u.chain = u := by rw [← hf.1.1.1]
      rw [this]; exact hu
    · exact try_cases n hm ho r fun v hv => h v (by simp [hv])
theorem tick_epoch {w : Wrld} (hw : 0 ≤ w.epoch ∧ w.epoch ≤ 30) {n : Nod} (he : n.epoch = w.epoch) : (enterF n (min (w.epoch + 1) 30)).epoch = min (w.epoch + 1) 30 ∧ (enterF n (min (w.epoch + 1) 30)).id = n.id ∧ (enterF n (min (w.epoch + 1) 30)).seen = n.seen ∧ (enterF n (min (w.epoch + 1) 30)).voted = n.voted := by
  unfold enterF
  split
  · exact ⟨rfl, rfl, rfl, rfl⟩
  · rename_i hh
    refine ⟨?_, rfl, rfl, rfl⟩
    have : ¬ (n.epoch + 1 ≤ min (w.epoch + 1) 30 ∧ min (w.epoch + 1) 30 ≤ 30) := fun ⟨a, b⟩ => hh (by simp only [within, Bool.and_eq_true, decide_eq_true_eq]; exact ⟨a, b⟩)
    omega
theorem Inv.tick {w : Wrld} (h : Inv w) : Inv (tickF w) := by
  refine ⟨tickF_ok h.ok, h.bad, fun k n hn => ?_, h.ord⟩
  have hn' : (w.nodes.map fun n => enterF n (min (w.epoch + 1) 30))[k]? = some n := hn
  rw [List.getElem?_map] at hn'
  cases hm : w.nodes[k]? with
  | none => rw [hm] at hn'; cases hn'
  | some m =>
    rw [hm] at hn'
    injection hn' with hn'
    have hM := h.nodes k m hm
    have he := tick_epoch h.ok.ep hM.ep
    simp only at hn'
    rw [hn'] at he
    obtain ⟨e1, e2, e3, e4⟩ := he
    refine ⟨by rw [e2]; exact hM.id, e1, ?_, ?_, ?_, ?_, ?_, ?_, ?_, ?_⟩ <;> rw [e3] <;> first | rw [e2] | skip
    · exact hM.idle
    · exact hM.sub
    · exact hM.own
    · exact hM.one
    · exact hM.long
    · exact hM.tip
    · exact hM.behind
    · exact hM.lead
theorem node_id {w : Wrld} (h : Inv w) {id : Int} (hid : 1 ≤ id ∧ id ≤ 4) {n : Nod} (hn : w.nodes[(id - 1).toNat]? = some n) : n.id = id := by
  have := (h.nodes _ n hn).id
  omega
theorem Inv.propose {w : Wrld} (h : Inv w) (id : Int) (p : Pay) : Inv (wproposeF w id p) := by
  unfold wproposeF
  split
  · rename_i hh
    simp only [honestB, Bool.and_eq_true, Bool.not_eq_true', decide_eq_false_iff_not, decide_eq_true_eq] at hh
    have hid : 1 ≤ id ∧ id ≤ 4 := by simpa [within] using hh.1.1.1
    split
    · rename_i n hn
      have hi := node_id h hid hn
      rcases propose_cases n p with e | ⟨c, hc, e⟩
      · rw [e]; exact h.idle hn
      · rw [e]; exact h.vote hn (by rw [hi]; exact hh.1.1.2) hh.1.2 hc
    · exact h
  · exact h
theorem putF_set {w : Wrld} {k : Nat} {m : Nod} (x : Nod × Vote × Bool) : putF { w with nodes := w.nodes.set k m } k x = putF w k x := by
  unfold putF
  simp only [List.set_set]
theorem Inv.bring {w : Wrld} (h : Inv w) (a id : Int) : Inv (wbringF w a id) := by
  unfold wbringF
  split
  · rename_i hh
    simp only [honestB, Bool.and_eq_true, Bool.not_eq_true', decide_eq_false_iff_not, decide_eq_true_eq] at hh
    have hid : 1 ≤ id ∧ id ≤ 4 := by simpa [within] using hh.1.1.1
    split
    · rename_i n v hn hv
      have hi := node_id h hid hn
      have hb : n.id ≠ w.bad := by rw [hi]; exact hh.1.1.2
      unfold hearF
      split
      · rename_i hc
        simp only [Bool.and_eq_true, Bool.not_eq_true', decide_eq_false_iff_not, decide_eq_true_eq] at hc
        have hk : (id - 1).toNat < w.nodes.length := (List.getElem?_eq_some_iff.1 hn).1
        have hM := (h.nodes _ n hn).see hb (List.mem_of_getElem? hv) hc.1.2
        have hMo := seeF_nok (h.ok.nodes n (List.mem_of_getElem? hn)) hc.1.1 hc.1.2 hc.2
        have h' := h.set hk hM hMo
        have hn' : ({ w with nodes := w.nodes.set (id - 1).toNat (seeF n v) } : Wrld).nodes[(id - 1).toNat]? = some (seeF n v) := List.getElem?_set_self hk
        split
        · rename_i hmay
          rcases try_cases (seeF n v) hmay (votesOk_mem (nodeOk_iff.1 hMo).1.2.2.2.2) _ (fun _ h => h) with e | ⟨c, hc', e⟩
          · rw [e, ← putF_set (m := seeF n v)]; exact h'.idle hn'
          · rw [e, ← putF_set (m := seeF n v)]; exact h'.vote hn' (by rw [(seeF_epoch n v).2.1]; exact hb) hh.1.2 hc'
        · rw [← putF_set (m := seeF n v)]; exact h'.idle hn'
      · exact h.idle hn
    · exact h
  · exact h
theorem Inv.forge {w : Wrld} (h : Inv w) {v : Vote} (hv : voteOk v = true) (hb : v.by_ = w.bad) : Inv (sendF w v) := by
  have hfx := sendF_ok h.ok hv
  unfold sendF at hfx ⊢
  split
  · rename_i hh
    rw [if_pos hh] at hfx
    have hmL : ∀ u ∈ w.log, u ∈ w.log ++ [v] := fun u hu => List.mem_append_left _ hu
    refine ⟨hfx, h.bad, fun k n hn => (h.nodes k n hn).more hmL fun hne u hu hub => ?_, fun i u hi hu => ?_⟩
    · rcases List.mem_append.1 hu with hu | hu
      · exact hu
      · simp at hu; subst hu; exact absurd (hub.symm.trans hb) hne
    · have hi' : (w.log ++ [v])[i]? = some u := hi
      show _ ∈ (w.log ++ [v]).take (i + 1)
      rcases Nat.lt_or_ge i w.log.length with hlt' | hge
      · rw [List.getElem?_append_left hlt'] at hi'
        rw [List.take_append_of_le_length (by omega)]
        exact h.ord i u hi' hu
      · rw [List.getElem?_append_right hge] at hi'
        have h0 : i - w.log.length = 0 := by
          have := (List.getElem?_eq_some_iff.1 hi').1
          simp at this; exact this
        rw [h0] at hi'
        simp at hi'
        subst hi'
        exact absurd hb hu
  · exact h
theorem Inv.do {w : Wrld} (h : Inv w) (e : Evt) : Inv (doF w e) := by
  unfold doF
  split
  · exact h.tick
  · split
    · exact h.propose _ _
    · split
      · exact h.bring _ _
      · split
        · split
          · rename_i hh
            simp only [Bool.and_eq_true, decide_eq_true_eq] at hh
            exact h.forge hh.1 hh.2
          · exact h
        · exact h
theorem Inv.new {bad : Int} (hb : within bad 0 4 = true) : Inv (newW bad) := by
  refine ⟨newW_ok bad, hb, fun k n hn => ?_, fun i v hv => by simp [newW] at hv⟩
  have : n = newN ((k : Int) + 1) := by
    have hk : k < 4 := (List.getElem?_eq_some_iff.1 hn).1
    match k, hk with
    | 0, _ => simp [newW] at hn; exact hn.symm
    | 1, _ => simp [newW] at hn; exact hn.symm
    | 2, _ => simp [newW] at hn; exact hn.symm
    | 3, _ => simp [newW] at hn; exact hn.symm
  subst this
  refine ⟨rfl, rfl, fun _ => rfl, fun _ v hv => by simp [newN] at hv, fun _ v hv => by simp [newW] at hv, ?_, ?_, ?_, ?_, ?_⟩ <;> intro v hv <;> simp [newN] at hv
theorem Inv.fold : ∀ (l : List Evt) {w : Wrld}, Inv w → Inv (l.foldl doF w)
  | [], _, h => h
  | e :: r, _, h => Inv.fold r (h.do e)
theorem Inv.play {bad : Int} (hb : within bad 0 4 = true) (evs : List Evt) : Inv (playF bad evs) := Inv.fold evs (Inv.new hb)
theorem doF_bad (w : Wrld) (e : Evt) : (doF w e).bad = w.bad := by
  have hs : ∀ (w : Wrld) v, (sendF w v).bad = w.bad := fun w v => by unfold sendF; split <;> rfl
  have hp : ∀ (w : Wrld) k x, (putF w k x).bad = w.bad := fun w k x => by
    unfold putF
    split
    · rw [hs]
    · rfl
  unfold doF
  split
  · rfl
  · split
    · unfold wproposeF
      split
      · split
        · exact hp _ _ _
        · rfl
      · rfl
    · split
      · unfold wbringF
        split
        · split
          · exact hp _ _ _
          · rfl
        · rfl
      · split
        · split
          · exact hs _ _
          · rfl
        · rfl
theorem fold_bad : ∀ (l : List Evt) (w : Wrld), (l.foldl doF w).bad = w.bad
  | [], _ => rfl
  | e :: r, w => (fold_bad r (doF w e)).trans (doF_bad w e)
theorem play_bad (bad : Int) (evs : List Evt) : (playF bad evs).bad = bad := fold_bad evs (newW bad)
/-- Votes of who does not lie lie with himself. -/
theorem Inv.mine {w : Wrld} (h : Inv w) {v : Vote} (hv : v ∈ w.log) (hb : v.by_ ≠ w.bad) : ∃ k n, w.nodes[k]? = some n ∧ n.id = v.by_ ∧ v ∈ n.seen ∧ NInv w.epoch w.bad w.log k n ∧ nodeOk n = true := by
  have hby := voteOk_by (votesOk_mem h.ok.log v hv)
  have hlt : (v.by_ - 1).toNat < w.nodes.length := by rw [h.ok.four]; omega
  have hn : w.nodes[(v.by_ - 1).toNat]? = some w.nodes[(v.by_ - 1).toNat] := List.getElem?_eq_getElem hlt
  have hN := h.nodes _ _ hn
  have hid : (w.nodes[(v.by_ - 1).toNat]).id = v.by_ := by have := hN.id; omega
  exact ⟨_, _, hn, hid, hN.own (by rw [hid]; exact hb) v hv hid.symm, hN, h.ok.nodes _ (List.getElem_mem hlt)⟩
theorem Inv.safe {w : Wrld} (h : Inv w) : Safe w.bad w.log := by
  refine ⟨fun u hu v hv hby hb he => ?_, fun u hu v hv hby hb he => ?_⟩
  · obtain ⟨k, n, hn, hid, hs, hN, _⟩ := h.mine hu hb
    exact hN.one u hs v (hN.own (by rw [hid]; exact hb) v hv (by rw [hid, hby])) hid.symm (by rw [hid, hby]) he
  · obtain ⟨k, n, hn, hid, hs, hN, _⟩ := h.mine hu hb
    exact hN.long u hs v (hN.own (by rw [hid]; exact hb) v hv (by rw [hid, hby])) hid.symm (by rw [hid, hby]) he
end Go.Wt

/- Finals of a world fit each other. -/
set_option linter.unusedVariables false
set_option linter.unusedSimpArgs false
namespace Go.Wt
theorem chainFrom_take : ∀ (c : List Itm) (e : Int) (n : Nat), chainFrom e c = true → chainFrom e (c.take n) = true
  | [], e, n, h => by simp [chainFrom]
  | x :: c, e, 0, h => by simp [chainFrom]
  | x :: c, e, n + 1, h => by
    simp only [chainFrom, Bool.and_eq_true, List.take_succ_cons] at h ⊢
    exact ⟨h.1, chainFrom_take c _ n h.2⟩
theorem chainOk_take {c : List Itm} (h : chainOk c = true) (n : Nat) : chainOk (c.take n) = true := by
  unfold chainOk at h ⊢
  simp only [Bool.and_eq_true, decide_eq_true_eq] at h ⊢
  refine ⟨chainFrom_take c 0 n h.1, ?_⟩
  rw [List.length_take]; omega
theorem sure_chainOk {l : List Vote} (hl : ∀ v ∈ l, voteOk v = true) {c : List Itm} (h : sure l c = true) : chainOk c = true := by
  cases c with
  | nil => rfl
  | cons x c =>
    obtain ⟨v, h1, h2⟩ := voters_some (l := l) (c := x :: c) (by have := sure_self h (by simp); omega)
    rw [← h2]; exact voteOk_chain (hl v h1)
theorem final_chainOk {l : List Vote} (hl : ∀ v ∈ l, voteOk v = true) : chainOk (finalOf l) = true := chainOk_take (sure_chainOk hl (shown_sure l)) _
theorem inS_prefix {a b : List Itm} (h : a <+: b) : inS a b = true := by
  unfold inS
  have h1 := h.length_le
  have h2 := List.prefix_iff_eq_take.1 h
  simp only [Bool.and_eq_true, decide_eq_true_eq]
  exact ⟨h1, h2⟩
def chIn (a b : List Itm) : Bool := chainOk a && chainOk b && inS a b
def fitsB (a b : List Itm) : Bool := chIn a b || chIn b a
theorem fits_of {a b : List Itm} (ha : chainOk a = true) (hb : chainOk b = true) (h : a <+: b ∨ b <+: a) : fitsB a b = true := by
  unfold fitsB chIn
  rcases h with h | h
  · simp [ha, hb, inS_prefix h]
  · simp [ha, hb, inS_prefix h]
/-- What any two who do not lie hold for final fits. -/
theorem Inv.agree {w : Wrld} (h : Inv w) {i k : Nat} {a b : Nod} (ha : w.nodes[i]? = some a) (hb : w.nodes[k]? = some b) (h1 : (i : Int) + 1 ≠ w.bad) (h2 : (k : Int) + 1 ≠ w.bad) : fitsB (finalOf a.seen) (finalOf b.seen) = true := by
  have hA := h.nodes i a ha
  have hB := h.nodes k b hb
  have oa := nodeOk_iff.1 (h.ok.nodes a (List.mem_of_getElem? ha))
  have ob := nodeOk_iff.1 (h.ok.nodes b (List.mem_of_getElem? hb))
  exact fits_of (final_chainOk (votesOk_mem oa.1.2.2.2.2)) (final_chainOk (votesOk_mem ob.1.2.2.2.2)) (h.safe.fits (hA.sub (by rw [hA.id]; exact h1)) (hB.sub (by rw [hB.id]; exact h2)))
theorem nodeOk_seen {n : Nod} (h : nodeOk n = true) : votesOk n.seen = true ∧ n.seen.length ≤ 80 := by
  have := nodeOk_iff.1 h
  exact ⟨this.1.2.2.2.2, this.1.2.2.2.1⟩
/-- An honest vote's place behind what is sure. -/
theorem Inv.behind {w : Wrld} (h : Inv w) {v : Vote} (hv : v ∈ w.log) (hb : v.by_ ≠ w.bad) : sure w.log (v.chain.take (v.chain.length - 1)) = true := by
  obtain ⟨k, n, hn, hid, hs, hN, _⟩ := h.mine hv hb
  exact sure_mono (hN.sub (by rw [hid]; exact hb)) (hN.behind v hs hid.symm)
/-- A sure chain is of no later epoch. -/
theorem Inv.epoch {w : Wrld} (h : Inv w) {c : List Itm} (hs : sure w.log c = true) (h0 : 0 < c.length) : lastEp c ≤ w.epoch := by
  obtain ⟨n, hn, hm⟩ := quorum1 w.bad (sure_self hs h0)
  obtain ⟨k, m, hk, hid, hms, hN, hno⟩ := h.mine hm hn
  have := (nodeOk_iff.1 hno).2 _ hms hid.symm
  have h2 := (nodeOk_iff.1 hno).1.2.2.1
  have := hN.ep
  simp only at *
  omega
theorem chainFrom_len : ∀ (c : List Itm) (e : Int), chainFrom e c = true → 0 < c.length → e + c.length ≤ lastEp c
  | [x], e, h, _ => by
    simp only [chainFrom, Bool.and_eq_true, decide_eq_true_eq] at h
    simp [lastEp]; omega
  | x :: y :: c, e, h, _ => by
    have h0 := h
    simp only [chainFrom, Bool.and_eq_true, decide_eq_true_eq] at h0
    have h1 : chainFrom x.epoch (y :: c) = true := by
      unfold chainFrom at h
      simp only [Bool.and_eq_true] at h
      exact h.2
    have := chainFrom_len (y :: c) x.epoch h1 (by simp)
    have e2 : lastEp (x :: y :: c) = lastEp (y :: c) := by simp [lastEp]
    rw [e2]
    simp only [List.length_cons] at this ⊢
    omega
theorem Inv.short {w : Wrld} (h : Inv w) {c : List Itm} (hs : sure w.log c = true) : (c.length : Int) ≤ w.epoch := by
  by_cases h0 : 0 < c.length
  · have h1 := h.epoch hs h0
    have h2 := sure_chainOk (votesOk_mem h.ok.log) hs
    simp only [chainOk, Bool.and_eq_true] at h2
    have := chainFrom_len c 0 h2.1 h0
    omega
  · have := h.ok.ep
    omega
/-- Of a sure chain's epoch the leader voted for it. -/
theorem Inv.leader {w : Wrld} (h : Inv w) {c : List Itm} (hs : sure w.log c = true) (h0 : 0 < c.length) : Vote.mk (leader (lastEp c)) c ∈ w.log := by
  obtain ⟨n, hn, hm⟩ := quorum1 w.bad (sure_self hs h0)
  obtain ⟨k, m, hk, hid, hms, hN, hno⟩ := h.mine hm hn
  exact hN.sub (by rw [hid]; exact hn) _ (hN.lead _ hms hid.symm)
end Go.Wt
