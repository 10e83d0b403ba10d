/- Part 4 of the proof: texts one behind the other. -/
import Derived.Test.YtmdhfalfppkpeaaGreatM3
import Derived.Laws.Small
/- The reference: payments, chains, votes. -/
set_option linter.unusedVariables false
set_option linter.unusedSimpArgs false
namespace Go.Proofs.YtmdhfalfppkpeaaGreat
open Go Go.Wt
theorem l6In_ct (n lo hi : Int) : CtP Tryz.prog 80 [.v n, .v lo, .v hi] (.v (within n lo hi)) := by
  refine Ct.intro Tryz.func80 rfl rfl ?_
  all_goals refine awp_seq (awp_region (id := 0) ?_)
  all_goals refine awpOps_cons (op_as rfl (Conv.of rfl) rfl) ?_
  all_goals refine awpOps_nil ?_
  all_goals refine awp_seq (awp_region (id := 1) ?_)
  all_goals refine awpOps_cons (op_mv rfl (Conv.of rfl) rfl) ?_
  all_goals refine awpOps_cons (op_mv rfl (Conv.of rfl) rfl) ?_
  all_goals refine awpOps_cons (op_geq rfl rfl rfl) ?_
  all_goals refine awpOps_cons (op_mv rfl (Conv.of rfl) rfl) ?_
  all_goals refine g_split (t := 10) rfl (fun h => ?_) (fun h => ?_)
  all_goals first | refine awpOps_cons (g_off rfl rfl rfl rfl rfl) ?_ | refine awpOps_cons (g_on rfl rfl rfl (op_mv rfl (Conv.of rfl) rfl)) ?_
  all_goals first | refine awpOps_cons (g_off rfl rfl rfl rfl rfl) ?_ | refine awpOps_cons (g_on rfl rfl rfl (op_mv rfl (Conv.of rfl) rfl)) ?_
  all_goals first | refine awpOps_cons (g_off rfl rfl rfl rfl rfl) ?_ | refine awpOps_cons (g_on rfl rfl rfl (op_leq rfl rfl rfl)) ?_
  all_goals refine awpOps_cons (op_pick rfl rfl rfl rfl) ?_
  all_goals refine awpOps_cons (op_as rfl (Conv.of rfl) rfl) ?_
  all_goals refine awpOps_nil ?_
  all_goals refine awp_ret ?_
  all_goals refine finP (.v rfl (Conv.of rfl)) rfl ?_
  all_goals (simp only [FV.av, within]; first | (rw [h]; rfl) | simp_all)
theorem sPayOk_ct (p : Pay) : CtP Tryz.prog 129 [.v p] (.v (payOk p)) := by
  refine Ct.intro Tryz.func129 rfl rfl ?_
  all_goals refine awp_seq (awp_region (id := 0) ?_)
  all_goals refine awpOps_cons (op_box (o := 0) ty58 rfl (Conv.of rfl) rfl rfl) ?_
  all_goals refine awpOps_cons (op_as rfl (Conv.of rfl) rfl) ?_
  all_goals refine awpOps_nil ?_
  all_goals refine awp_seq (awp_region (id := 1) ?_)
  all_goals refine awpOps_cons (op_fab f58_0 rfl rfl) ?_
  all_goals refine awpOps_cons (op_ld ty3 rfl rfl rfl) ?_
  all_goals refine awpOps_cons (op_call fb80 (.cons rfl (Conv.of rfl) (.cons rfl (Conv.of rfl) (.cons rfl (Conv.of rfl) (.nil _)))) (l6In_ct _ _ _) (argOk rfl rfl (argOk rfl rfl (argOk rfl rfl argOk0))) rfl rfl) ?_
  all_goals refine awpOps_cons (op_mv rfl (Conv.of rfl) rfl) ?_
  all_goals refine g_split (t := 6) rfl (fun h => ?_) (fun h => ?_)
  all_goals first | refine awpOps_cons (g_off rfl rfl rfl rfl rfl) ?_ | refine awpOps_cons (g_on rfl rfl rfl (op_fab f58_1 rfl rfl)) ?_
  all_goals first | refine awpOps_cons (g_off rfl rfl rfl rfl rfl) ?_ | refine awpOps_cons (g_on rfl rfl rfl (op_ld ty3 rfl rfl rfl)) ?_
  all_goals first | refine awpOps_cons (g_off rfl rfl rfl rfl rfl) ?_ | refine awpOps_cons (g_on rfl rfl rfl (op_call fb80 (.cons rfl (Conv.of rfl) (.cons rfl (Conv.of rfl) (.cons rfl (Conv.of rfl) (.nil _)))) (l6In_ct _ _ _) (argOk rfl rfl (argOk rfl rfl (argOk rfl rfl argOk0))) rfl rfl)) ?_
  all_goals refine awpOps_cons (op_pick rfl rfl rfl rfl) ?_
  all_goals refine awpOps_cons (op_mv rfl (Conv.of rfl) rfl) ?_
  all_goals first | refine g_lit (t := 11) (b := false) rfl ?_ | refine g_split (t := 11) rfl (fun h => ?_) (fun h => ?_)
  all_goals first | refine awpOps_cons (g_off rfl rfl rfl rfl rfl) ?_ | refine awpOps_cons (g_on rfl rfl rfl (op_fab f58_0 rfl rfl)) ?_
  all_goals first | refine awpOps_cons (g_off rfl rfl rfl rfl rfl) ?_ | refine awpOps_cons (g_on rfl rfl rfl (op_ld ty3 rfl rfl rfl)) ?_
  all_goals first | refine awpOps_cons (g_off rfl rfl rfl rfl rfl) ?_ | refine awpOps_cons (g_on rfl rfl rfl (op_fab f58_1 rfl rfl)) ?_
  all_goals first | refine awpOps_cons (g_off rfl rfl rfl rfl rfl) ?_ | refine awpOps_cons (g_on rfl rfl rfl (op_ld ty3 rfl rfl rfl)) ?_
  all_goals first | refine awpOps_cons (g_off rfl rfl rfl rfl rfl) ?_ | refine awpOps_cons (g_on rfl rfl rfl (op_neq rfl rfl rfl)) ?_
  all_goals refine awpOps_cons (op_pick rfl rfl rfl rfl) ?_
  all_goals refine awpOps_cons (op_mv rfl (Conv.of rfl) rfl) ?_
  all_goals first | refine g_lit (t := 18) (b := false) rfl ?_ | refine g_split (t := 18) rfl (fun h => ?_) (fun h => ?_)
  all_goals first | refine awpOps_cons (g_off rfl rfl rfl rfl rfl) ?_ | refine awpOps_cons (g_on rfl rfl rfl (op_fab f58_2 rfl rfl)) ?_
  all_goals first | refine awpOps_cons (g_off rfl rfl rfl rfl rfl) ?_ | refine awpOps_cons (g_on rfl rfl rfl (op_ld ty3 rfl rfl rfl)) ?_
  all_goals first | refine awpOps_cons (g_off rfl rfl rfl rfl rfl) ?_ | refine awpOps_cons (g_on rfl rfl rfl (op_call fb80 (.cons rfl (Conv.of rfl) (.cons rfl (Conv.of rfl) (.cons rfl (Conv.of rfl) (.nil _)))) (l6In_ct _ _ _) (argOk rfl rfl (argOk rfl rfl (argOk rfl rfl argOk0))) rfl rfl)) ?_
  all_goals refine awpOps_cons (op_pick rfl rfl rfl rfl) ?_
  all_goals refine awpOps_cons (op_as rfl (Conv.of rfl) rfl) ?_
  all_goals refine awpOps_nil ?_
  all_goals refine awp_ret ?_
  all_goals refine finP (.v rfl (Conv.of rfl)) rfl ?_
  all_goals simp_all [FV.av, payOk]
set_option maxHeartbeats 1000000 in
theorem sChainOk_ct (c : List Itm) : CtP Tryz.prog 143 [.v c] (.v (chainOk c)) := by
  refine Ct.intro Tryz.func143 rfl rfl ?_
  refine awp_bigL 0 rfl (fun hB => ?_)
  all_goals refine awp_seq (awp_region (id := 0) ?_)
  all_goals refine awpOps_cons (op_as rfl (Conv.of rfl) rfl) ?_
  all_goals refine awpOps_nil ?_
  all_goals refine awp_seq (awp_seq (awp_region (id := 1) ?_))
  all_goals refine awpOps_cons (op_as rfl (Conv.of rfl) rfl) ?_
  all_goals refine awpOps_nil ?_
  refine awp_block ?_
  refine awp_loop' (fun n s => ∃ (k : Nat), ∃ (hn : n + k = c.length), ∃ (hall : ∀ (j : Nat) (x : Itm), j < k → c[j]? = some x → itemOk c j x = true), s = mkSt 47 [(0, .v c), (3, .v (k : Int))] []) (c.length) ⟨0, by omega, fun j x h => by omega, rfl⟩ (Le.mk rfl (tle rfl (rfl) rfl (tle rfl (rfl) rfl tln)) oln noS) ?_
  rintro n s ⟨k, hn, hall, rfl⟩
  all_goals refine awp_seq (awp_seq (awp_region (id := 2) ?_))
  all_goals refine awpOps_cons (op_mv rfl (Conv.of rfl) rfl) ?_
  all_goals refine awpOps_cons (op_mv rfl (Conv.of rfl) rfl) ?_
  all_goals refine awpOps_cons (op_len sl34 rfl rfl) ?_
  all_goals refine awpOps_cons (op_lss rfl rfl rfl) ?_
  all_goals refine awpOps_nil ?_
  refine awp_cond rfl (fun h => ?_) (fun h => ?_)
  · have hlt : k < c.length := by simpa using h
    have hx : c[k]? = some c[k] := List.getElem?_eq_getElem hlt
    refine awp_skip ?_
    refine awp_seq (awp_block ?_)
    have hprev : decide ((0 : Int) < k) = true → 0 ≤ (k : Int) - 1 ∧ c[((k : Int) - 1).toNat]? = some (c[k - 1]'(by omega)) := by
      intro h0
      have h1 : 0 < k := by simpa using h0
      have e : ((k : Int) - 1).toNat = k - 1 := by omega
      exact ⟨by omega, by rw [e]; exact List.getElem?_eq_getElem (by omega)⟩
    refine awp_seq_to (s' := mkSt 47 [(0, .v c), (3, .v (k : Int)), (43, .v (!itemOk c k c[k]))] []) ?_ ?_
    · all_goals refine dr_start (id := 4) ?_
      all_goals refine dr_cons (op_mv rfl (Conv.of rfl) rfl) ?_
      all_goals refine dr_cons (op_mv rfl (Conv.of rfl) rfl) ?_
      all_goals refine dr_cons (op_ix sl34 rfl rfl rfl (by omega) hx) ?_
      all_goals refine dr_cons (op_far f60_0 rfl rfl) ?_
      all_goals refine dr_cons (op_ldr ty3 rfl rfl) ?_
      all_goals refine dr_cons (op_call fb80 (.cons rfl (Conv.of rfl) (.cons rfl (Conv.of rfl) (.cons rfl (Conv.of rfl) (.nil _)))) (l6In_ct _ _ _) (argOk rfl rfl (argOk rfl rfl (argOk rfl rfl argOk0))) rfl rfl) ?_
      all_goals refine dr_cons (op_not rfl rfl) ?_
      all_goals refine dr_cons (op_mv rfl (Conv.of rfl) rfl) ?_
      all_goals refine dr_split (t := 17) rfl (fun h => ?_) (fun h => ?_)
      all_goals first | refine dr_cons (g_off rfl rfl rfl rfl rfl) ?_ | refine dr_cons (g_on rfl rfl rfl (op_mv rfl (Conv.of rfl) rfl)) ?_
      all_goals first | refine dr_cons (g_off rfl rfl rfl rfl rfl) ?_ | refine dr_cons (g_on rfl rfl rfl (op_mv rfl (Conv.of rfl) rfl)) ?_
      all_goals first | refine dr_cons (g_off rfl rfl rfl rfl rfl) ?_ | refine dr_cons (g_on rfl rfl rfl (op_ix sl34 rfl rfl rfl (by omega) hx)) ?_
      all_goals first | refine dr_cons (g_off rfl rfl rfl rfl rfl) ?_ | refine dr_cons (g_on rfl rfl rfl (op_far f60_1 rfl rfl)) ?_
      all_goals first | refine dr_cons (g_off rfl rfl rfl rfl rfl) ?_ | refine dr_cons (g_on rfl rfl rfl (op_ldr ty58 rfl rfl)) ?_
      all_goals first | refine dr_cons (g_off rfl rfl rfl rfl rfl) ?_ | refine dr_cons (g_on rfl rfl rfl (op_call fb129 (.cons rfl (Conv.of rfl) (.nil _)) (sPayOk_ct _) (argOk rfl rfl argOk0) rfl rfl)) ?_
      all_goals first | refine dr_cons (g_off rfl rfl rfl rfl rfl) ?_ | refine dr_cons (g_on rfl rfl rfl (op_not rfl rfl)) ?_
      all_goals refine dr_cons (op_pick rfl rfl rfl rfl) ?_
      all_goals refine dr_cons (op_mv rfl (Conv.of rfl) rfl) ?_
      all_goals first | refine dr_lit (t := 26) (b := true) rfl ?_ | refine dr_split (t := 26) rfl (fun h => ?_) (fun h => ?_)
      all_goals first | refine dr_cons (g_off rfl rfl rfl rfl rfl) ?_ | refine dr_cons (g_on rfl rfl rfl (op_mv rfl (Conv.of rfl) rfl)) ?_
      all_goals first | refine dr_cons (g_off rfl rfl rfl rfl rfl) ?_ | refine dr_cons (g_on rfl rfl rfl (op_gtr rfl rfl rfl)) ?_
      all_goals first | refine dr_cons (g_off rfl rfl rfl rfl rfl) ?_ | refine dr_cons (g_on rfl rfl rfl (op_mv rfl (Conv.of rfl) rfl)) ?_
      all_goals first | refine dr_ulit (t := 29) rfl ?_ | refine dr_split (t := 29) rfl (fun h => ?_) (fun h => ?_)
      all_goals first | refine dr_cons (g_off rfl rfl rfl rfl rfl) ?_ | refine dr_cons (g_und rfl rfl rfl) ?_ | refine dr_cons (g_on rfl rfl rfl (op_mv rfl (Conv.of rfl) rfl)) ?_
      all_goals first | refine dr_cons (g_off rfl rfl rfl rfl rfl) ?_ | refine dr_cons (g_und rfl rfl rfl) ?_ | refine dr_cons (g_on rfl rfl rfl (op_mv rfl (Conv.of rfl) rfl)) ?_
      all_goals first | refine dr_cons (g_off rfl rfl rfl rfl rfl) ?_ | refine dr_cons (g_und rfl rfl rfl) ?_ | refine dr_cons (g_on rfl rfl rfl (op_sub rfl rfl rfl (by omega))) ?_
      all_goals first | refine dr_cons (g_off rfl rfl rfl rfl rfl) ?_ | refine dr_cons (g_und rfl rfl rfl) ?_ | refine dr_cons (g_on rfl rfl rfl (op_ix sl34 rfl rfl rfl (hprev h).1 (hprev h).2)) ?_
      all_goals first | refine dr_cons (g_off rfl rfl rfl rfl rfl) ?_ | refine dr_cons (g_und rfl rfl rfl) ?_ | refine dr_cons (g_on rfl rfl rfl (op_far f60_0 rfl rfl)) ?_
      all_goals first | refine dr_cons (g_off rfl rfl rfl rfl rfl) ?_ | refine dr_cons (g_und rfl rfl rfl) ?_ | refine dr_cons (g_on rfl rfl rfl (op_ldr ty3 rfl rfl)) ?_
      all_goals first | refine dr_cons (g_off rfl rfl rfl rfl rfl) ?_ | refine dr_cons (g_und rfl rfl rfl) ?_ | refine dr_cons (g_on rfl rfl rfl (op_mv rfl (Conv.of rfl) rfl)) ?_
      all_goals first | refine dr_cons (g_off rfl rfl rfl rfl rfl) ?_ | refine dr_cons (g_und rfl rfl rfl) ?_ | refine dr_cons (g_on rfl rfl rfl (op_mv rfl (Conv.of rfl) rfl)) ?_
      all_goals first | refine dr_cons (g_off rfl rfl rfl rfl rfl) ?_ | refine dr_cons (g_und rfl rfl rfl) ?_ | refine dr_cons (g_on rfl rfl rfl (op_ix sl34 rfl rfl rfl (by omega) hx)) ?_
      all_goals first | refine dr_cons (g_off rfl rfl rfl rfl rfl) ?_ | refine dr_cons (g_und rfl rfl rfl) ?_ | refine dr_cons (g_on rfl rfl rfl (op_far f60_0 rfl rfl)) ?_
      all_goals first | refine dr_cons (g_off rfl rfl rfl rfl rfl) ?_ | refine dr_cons (g_und rfl rfl rfl) ?_ | refine dr_cons (g_on rfl rfl rfl (op_ldr ty3 rfl rfl)) ?_
      all_goals first | refine dr_cons (g_off rfl rfl rfl rfl rfl) ?_ | refine dr_cons (g_und rfl rfl rfl) ?_ | refine dr_cons (g_on rfl rfl rfl (op_geq rfl rfl rfl)) ?_
      all_goals first | refine dr_cons (g_off rfl rfl rfl rfl rfl) ?_ | refine dr_cons (g_on rfl rfl rfl (op_pick rfl rfl rfl rfl)) ?_
      all_goals refine dr_cons (op_pick rfl rfl rfl rfl) ?_
      all_goals refine dr_nil mixed rfl ?_
      all_goals exact Le.mk rfl (tle rfl (rfl) rfl (tle rfl (rfl) rfl (tle rfl (by (clear hall; simp_all [itemOk_nat, List.getElem?_eq_getElem (show k - 1 < c.length by omega)])) rfl tln))) oln noS
    refine awp_cond rfl (fun h => ?_) (fun h => ?_)
    · all_goals refine awp_seq (awp_region (id := 5) ?_)
      all_goals refine awpOps_cons (op_as rfl (Conv.of rfl) rfl) ?_
      all_goals refine awpOps_nil ?_
      refine awp_ret ?_
      repeat first | refine rt_seq ?_ | refine rt_block ?_
      refine finP (.v rfl (Conv.of rfl)) rfl ?_
      show AV.v false = _
      rw [chainOk_bad hx (not_t h)]
    · refine awp_skip ?_
      all_goals refine awp_region (id := 3) ?_
      all_goals refine awpOps_cons (op_mv rfl (Conv.of rfl) rfl) ?_
      all_goals refine awpOps_cons (op_add rfl rfl rfl (by omega)) ?_
      all_goals refine awpOps_cons (op_as rfl (Conv.of rfl) rfl) ?_
      all_goals refine awpOps_nil ?_
      repeat first | refine nx_seq ?_ | refine nx_block ?_
      exact ⟨n - 1, _, by omega, ⟨k + 1, by omega, fun j x hj hjx => chainOk_more hx hall (not_f h) hj hjx, rfl⟩, Le.mk rfl (tle rfl (rfl) rfl (tle rfl (rfl) rfl tln)) oln noS⟩
  · refine awp_exit ?_
    repeat refine ex_seq ?_
    refine ex_block ?_
    all_goals refine awp_seq (awp_region (id := 6) ?_)
    all_goals refine awpOps_cons (op_mv rfl (Conv.of rfl) rfl) ?_
    all_goals refine awpOps_cons (op_len sl34 rfl rfl) ?_
    all_goals refine awpOps_cons (op_leq rfl rfl rfl) ?_
    all_goals refine awpOps_cons (op_as rfl (Conv.of rfl) rfl) ?_
    all_goals refine awpOps_nil ?_
    refine awp_ret ?_
    repeat first | refine rt_seq ?_ | refine rt_block ?_
    refine finP (.v rfl (Conv.of rfl)) rfl ?_
    show AV.v _ = _
    rw [chainOk_good (k := k) (by simpa using h) hall]
theorem l3Leader_ct (n : Int) (hn : -1000 ≤ n ∧ n ≤ 1000000) : CtP Tryz.prog 79 [.v n] (.v (leadS n)) := by
  have ht1 := Int.tmod_lt_of_pos (n - 1) (show (0 : Int) < 4 by omega)
  have ht2 : -4 < (n - 1).tmod 4 := Int.lt_tmod_of_pos (n - 1) (show (0 : Int) < 4 by omega)
  refine Ct.intro Tryz.func79 rfl rfl ?_
  all_goals refine awp_seq (awp_region (id := 0) ?_)
  all_goals refine awpOps_cons (op_as rfl (Conv.of rfl) rfl) ?_
  all_goals refine awpOps_nil ?_
  all_goals refine awp_seq (awp_region (id := 1) ?_)
  all_goals refine awpOps_cons (op_mv rfl (Conv.of rfl) rfl) ?_
  all_goals refine awpOps_cons (op_sub rfl rfl rfl (by omega)) ?_
  all_goals refine awpOps_cons (op_rem rfl rfl rfl (by decide)) ?_
  all_goals refine awpOps_cons (op_add rfl rfl rfl (by omega)) ?_
  all_goals refine awpOps_cons (op_as rfl (Conv.of rfl) rfl) ?_
  all_goals refine awpOps_nil ?_
  refine awp_ret ?_
  repeat first | refine rt_seq ?_ | refine rt_block ?_
  exact finP (.v rfl (Conv.of rfl)) rfl rfl
theorem l1In_ct (a b : List Itm) : CtP Tryz.prog 176 [.v a, .v b] (.v (inS a b)) := by
  refine Ct.intro Tryz.func176 rfl rfl ?_
  refine awp_bigL 0 rfl (fun hB => ?_)
  all_goals refine awp_seq (awp_region (id := 0) ?_)
  all_goals refine awpOps_cons (op_as rfl (Conv.of rfl) rfl) ?_
  all_goals refine awpOps_nil ?_
  all_goals refine awp_seq (awp_seq (awp_region (id := 1) ?_))
  all_goals refine awpOps_cons (op_mv rfl (Conv.of rfl) rfl) ?_
  all_goals refine awpOps_cons (op_len sl34 rfl rfl) ?_
  all_goals refine awpOps_cons (op_mv rfl (Conv.of rfl) rfl) ?_
  all_goals refine awpOps_cons (op_len sl34 rfl rfl) ?_
  all_goals refine awpOps_cons (op_gtr rfl rfl rfl) ?_
  all_goals refine awpOps_nil ?_
  refine awp_cond rfl (fun h => ?_) (fun h => ?_)
  · all_goals refine awp_seq (awp_region (id := 2) ?_)
    all_goals refine awpOps_cons (op_as rfl (Conv.of rfl) rfl) ?_
    all_goals refine awpOps_nil ?_
    refine awp_ret ?_
    repeat first | refine rt_seq ?_ | refine rt_block ?_
    refine finP (.v rfl (Conv.of rfl)) rfl ?_
    have : ¬ a.length ≤ b.length := by simp at h; omega
    simp [FV.av, inS, this]
  · have hlen : a.length ≤ b.length := by simp at h; omega
    refine awp_skip ?_
    all_goals refine awp_seq (awp_seq (awp_region (id := 3) ?_))
    all_goals refine awpOps_cons (op_as rfl (Conv.of rfl) rfl) ?_
    all_goals refine awpOps_nil ?_
    refine awp_block ?_
    refine awp_loop' (fun n s => ∃ (k : Nat), ∃ (hn : n + k = a.length), ∃ (hall : decide (a.take k = b.take k) = true), s = mkSt 26 [(0, .v a), (1, .v b), (5, .v (k : Int))] []) (a.length) ⟨0, by omega, rfl, rfl⟩ (Le.mk rfl (tle rfl (rfl) rfl (tle rfl (rfl) rfl (tle rfl (rfl) rfl tln))) oln noS) ?_
    rintro n s ⟨k, hn, hall, rfl⟩
    all_goals refine awp_seq (awp_seq (awp_region (id := 4) ?_))
    all_goals refine awpOps_cons (op_mv rfl (Conv.of rfl) rfl) ?_
    all_goals refine awpOps_cons (op_mv rfl (Conv.of rfl) rfl) ?_
    all_goals refine awpOps_cons (op_len sl34 rfl rfl) ?_
    all_goals refine awpOps_cons (op_lss rfl rfl rfl) ?_
    all_goals refine awpOps_nil ?_
    refine awp_cond rfl (fun h => ?_) (fun h => ?_)
    · have hlt : k < a.length := by simpa using h
      have hx : a[k]? = some a[k] := List.getElem?_eq_getElem hlt
      have hy : b[k]? = some (b[k]'(by omega)) := List.getElem?_eq_getElem (by omega)
      have hs := take_eq_at hx hy
      refine awp_skip ?_
      refine awp_seq (awp_block ?_)
      all_goals refine awp_seq (dr_start (id := 6) ?_)
      all_goals refine dr_cons (op_mv rfl (Conv.of rfl) rfl) ?_
      all_goals refine dr_cons (op_mv rfl (Conv.of rfl) rfl) ?_
      all_goals refine dr_cons (op_ix sl34 rfl rfl rfl (by omega) hx) ?_
      all_goals refine dr_cons (op_ldr ty60 rfl rfl) ?_
      all_goals refine dr_cons (op_mv rfl (Conv.of rfl) rfl) ?_
      all_goals refine dr_cons (op_mv rfl (Conv.of rfl) rfl) ?_
      all_goals refine dr_cons (op_ix sl34 rfl rfl rfl (by omega) hy) ?_
      all_goals refine dr_cons (op_ldr ty60 rfl rfl) ?_
      all_goals refine dr_cons (op_nea weq60 rfl rfl rfl) ?_
      all_goals refine dr_nil mixed rfl ?_
      refine awp_cond rfl (fun h => ?_) (fun h => ?_)
      · all_goals refine awp_seq (awp_region (id := 7) ?_)
        all_goals refine awpOps_cons (op_as rfl (Conv.of rfl) rfl) ?_
        all_goals refine awpOps_nil ?_
        refine awp_ret ?_
        repeat first | refine rt_seq ?_ | refine rt_block ?_
        refine finP (.v rfl (Conv.of rfl)) rfl ?_
        have h' : ¬ a[k] = b[k] := by simpa using h
        have : ¬ a = b.take a.length := by
          intro e
          have e2 : a[k]? = (b.take a.length)[k]? := congrArg (fun l : List Itm => l[k]?) e
          rw [List.getElem?_take, if_pos hlt, hy, hx] at e2
          exact h' (Option.some.inj e2)
        simp [FV.av, inS, this]
      · refine awp_skip ?_
        have h' : decide (a[k] = b[k]) = true := by simpa using h
        all_goals refine awp_region (id := 5) ?_
        all_goals refine awpOps_cons (op_mv rfl (Conv.of rfl) rfl) ?_
        all_goals refine awpOps_cons (op_add rfl rfl rfl (by omega)) ?_
        all_goals refine awpOps_cons (op_as rfl (Conv.of rfl) rfl) ?_
        all_goals refine awpOps_nil ?_
        repeat first | refine nx_seq ?_ | refine nx_block ?_
        exact ⟨n - 1, _, by omega, ⟨k + 1, by omega, by rw [hs, hall, h']; rfl, rfl⟩, Le.mk rfl (tle rfl (rfl) rfl (tle rfl (rfl) rfl (tle rfl (rfl) rfl tln))) oln noS⟩
    · refine awp_exit ?_
      repeat refine ex_seq ?_
      refine ex_block ?_
      have hk : k = a.length := by simp at h; omega
      subst hk
      all_goals refine awp_seq (awp_region (id := 8) ?_)
      all_goals refine awpOps_cons (op_as rfl (Conv.of rfl) rfl) ?_
      all_goals refine awpOps_nil ?_
      refine awp_ret ?_
      repeat first | refine rt_seq ?_ | refine rt_block ?_
      refine finP (.v rfl (Conv.of rfl)) rfl ?_
      rw [List.take_length] at hall
      have : a = b.take a.length := by simpa using hall
      simp [FV.av, inS, hlen, ← this]
theorem inS_same {a b : List Itm} (h : a.length = b.length) : inS a b = decide (a = b) := by
  unfold inS
  rw [show b.take a.length = b by rw [h, List.take_length]]
  simp [h]
theorem l3Same_ct (a b : List Itm) : CtP Tryz.prog 165 [.v a, .v b] (.v (decide (a = b))) := by
  refine Ct.intro Tryz.func165 rfl rfl ?_
  all_goals refine awp_seq (awp_region (id := 0) ?_)
  all_goals refine awpOps_cons (op_as rfl (Conv.of rfl) rfl) ?_
  all_goals refine awpOps_nil ?_
  all_goals refine awp_seq (awp_region (id := 1) ?_)
  all_goals refine awpOps_cons (op_mv rfl (Conv.of rfl) rfl) ?_
  all_goals refine awpOps_cons (op_len sl34 rfl rfl) ?_
  all_goals refine awpOps_cons (op_mv rfl (Conv.of rfl) rfl) ?_
  all_goals refine awpOps_cons (op_len sl34 rfl rfl) ?_
  all_goals refine awpOps_cons (op_eql rfl rfl rfl) ?_
  all_goals refine awpOps_cons (op_mv rfl (Conv.of rfl) rfl) ?_
  all_goals refine g_split (t := 10) rfl (fun h => ?_) (fun h => ?_)
  all_goals first | refine awpOps_cons (g_off rfl rfl rfl rfl rfl) ?_ | refine awpOps_cons (g_on rfl rfl rfl (op_mv rfl (Conv.of rfl) rfl)) ?_
  all_goals first | refine awpOps_cons (g_off rfl rfl rfl rfl rfl) ?_ | refine awpOps_cons (g_on rfl rfl rfl (op_mv rfl (Conv.of rfl) rfl)) ?_
  all_goals first | refine awpOps_cons (g_off rfl rfl rfl rfl rfl) ?_ | refine awpOps_cons (g_on rfl rfl rfl (op_call fb176 (.cons rfl (Conv.of rfl) (.cons rfl (Conv.of rfl) (.nil _))) (l1In_ct _ _) (argOk rfl rfl (argOk rfl rfl argOk0)) rfl rfl)) ?_
  all_goals refine awpOps_cons (op_pick rfl rfl rfl rfl) ?_
  all_goals refine awpOps_cons (op_as rfl (Conv.of rfl) rfl) ?_
  all_goals refine awpOps_nil ?_
  all_goals refine awp_ret ?_
  all_goals refine finP (.v rfl (Conv.of rfl)) rfl ?_
  · have hl : a.length = b.length := by simp at h; omega
    simp only [FV.av]; congr 1
    exact inS_same hl
  · have hl : ¬ a.length = b.length := by simp at h; omega
    have : ¬ a = b := fun e => hl (by rw [e])
    simp [FV.av, this]
theorem l1Copy_ct (c : List Itm) (hc : c.length ≤ 1000000) : CtP Tryz.prog 100 [.v c] (.v (OList.mk c true)) := by
  refine Ct.intro Tryz.func100 rfl rfl ?_
  all_goals refine awp_seq (awp_region (id := 0) ?_)
  all_goals refine awpOps_cons (op_as rfl (Conv.of rfl) rfl) ?_
  all_goals refine awpOps_nil ?_
  all_goals refine awp_seq (awp_region (id := 1) ?_)
  all_goals refine awpOps_cons (op_bsl sl34 z60 (.nil _) rfl (by decide) rfl) ?_
  all_goals refine awpOps_cons (op_mv rfl (Conv.of rfl) rfl) ?_
  all_goals refine awpOps_cons (op_app sl34 z60 ul34 rfl rfl rfl (by (simp; omega)) (by (simp; omega)) rfl rfl) ?_
  all_goals refine awpOps_cons (op_asl rfl rfl rfl rfl) ?_
  all_goals refine awpOps_nil ?_
  refine awp_ret ?_
  repeat first | refine rt_seq ?_ | refine rt_block ?_
  exact finM rfl rfl (by simp)
theorem l3VoteCopy_ct (v : Vote) (hv : v.chain.length ≤ 1000000) : CtP Tryz.prog 102 [.v v] (.v v) := by
  refine Ct.intro Tryz.func102 rfl rfl ?_
  all_goals refine awp_seq (awp_region (id := 0) ?_)
  all_goals refine awpOps_cons (op_box (o := 0) ty48 rfl (Conv.of rfl) rfl rfl) ?_
  all_goals refine awpOps_cons (op_alloc (o := 1) z48 rfl rfl) ?_
  all_goals refine awpOps_nil ?_
  all_goals refine awp_seq (awp_region (id := 1) ?_)
  all_goals refine awpOps_cons (op_fab f48_1 rfl rfl) ?_
  all_goals refine awpOps_cons (op_ld ty34 rfl rfl rfl) ?_
  all_goals refine awpOps_cons (op_call fb100 (.cons rfl (Conv.of rfl) (.nil _)) (l1Copy_ct _ hv) (argOk rfl rfl argOk0) rfl rfl) ?_
  all_goals refine awpOps_cons (op_fab f48_1 rfl rfl) ?_
  all_goals refine awpOps_cons (op_st ty34 rfl rfl (Conv.ol) rfl) ?_
  all_goals refine awpOps_nil ?_
  all_goals refine awp_seq (awp_region (id := 2) ?_)
  all_goals refine awpOps_cons (op_ld ty48 rfl rfl rfl) ?_
  all_goals refine awpOps_cons (op_st ty48 rfl rfl (Conv.of rfl) rfl) ?_
  all_goals refine awpOps_nil ?_
  refine awp_ret ?_
  repeat first | refine rt_seq ?_ | refine rt_block ?_
  exact finP (.rc ty48 rfl rfl) rfl rfl
theorem l3Vote_ct (v : Vote) : CtP Tryz.prog 118 [.v v] (.v (voteOk v)) := by
  refine Ct.intro Tryz.func118 rfl rfl ?_
  all_goals refine awp_seq (awp_region (id := 0) ?_)
  all_goals refine awpOps_cons (op_box (o := 0) ty48 rfl (Conv.of rfl) rfl rfl) ?_
  all_goals refine awpOps_cons (op_as rfl (Conv.of rfl) rfl) ?_
  all_goals refine awpOps_nil ?_
  all_goals refine awp_seq (awp_region (id := 1) ?_)
  all_goals refine awpOps_cons (op_fab f48_0 rfl rfl) ?_
  all_goals refine awpOps_cons (op_ld ty3 rfl rfl rfl) ?_
  all_goals refine awpOps_cons (op_call fb80 (.cons rfl (Conv.of rfl) (.cons rfl (Conv.of rfl) (.cons rfl (Conv.of rfl) (.nil _)))) (l6In_ct _ _ _) (argOk rfl rfl (argOk rfl rfl (argOk rfl rfl argOk0))) rfl rfl) ?_
  all_goals refine awpOps_cons (op_mv rfl (Conv.of rfl) rfl) ?_
  all_goals refine g_split (t := 6) rfl (fun h => ?_) (fun h => ?_)
  all_goals first | refine awpOps_cons (g_off rfl rfl rfl rfl rfl) ?_ | refine awpOps_cons (g_on rfl rfl rfl (op_fab f48_1 rfl rfl)) ?_
  all_goals first | refine awpOps_cons (g_off rfl rfl rfl rfl rfl) ?_ | refine awpOps_cons (g_on rfl rfl rfl (op_ld ty34 rfl rfl rfl)) ?_
  all_goals first | refine awpOps_cons (g_off rfl rfl rfl rfl rfl) ?_ | refine awpOps_cons (g_on rfl rfl rfl (op_call fb143 (.cons rfl (Conv.of rfl) (.nil _)) (sChainOk_ct _) (argOk rfl rfl argOk0) rfl rfl)) ?_
  all_goals refine awpOps_cons (op_pick rfl rfl rfl rfl) ?_
  all_goals refine awpOps_cons (op_mv rfl (Conv.of rfl) rfl) ?_
  all_goals first | refine g_lit (t := 11) (b := false) rfl ?_ | refine g_split (t := 11) rfl (fun h => ?_) (fun h => ?_)
  all_goals first | refine awpOps_cons (g_off rfl rfl rfl rfl rfl) ?_ | refine awpOps_cons (g_on rfl rfl rfl (op_fab f48_1 rfl rfl)) ?_
  all_goals first | refine awpOps_cons (g_off rfl rfl rfl rfl rfl) ?_ | refine awpOps_cons (g_on rfl rfl rfl (op_ld ty34 rfl rfl rfl)) ?_
  all_goals first | refine awpOps_cons (g_off rfl rfl rfl rfl rfl) ?_ | refine awpOps_cons (g_on rfl rfl rfl (op_len sl34 rfl rfl)) ?_
  all_goals first | refine awpOps_cons (g_off rfl rfl rfl rfl rfl) ?_ | refine awpOps_cons (g_on rfl rfl rfl (op_gtr rfl rfl rfl)) ?_
  all_goals refine awpOps_cons (op_pick rfl rfl rfl rfl) ?_
  all_goals refine awpOps_cons (op_as rfl (Conv.of rfl) rfl) ?_
  all_goals refine awpOps_nil ?_
  all_goals refine awp_ret ?_
  all_goals refine finP (.v rfl (Conv.of rfl)) rfl ?_
  all_goals (simp_all [FV.av, voteOk])
theorem l3Has_ct (l : List Vote) (v : Vote) : CtP Tryz.prog 132 [.v l, .v v] (.v (decide (v ∈ l))) := by
  refine Ct.intro Tryz.func132 rfl rfl ?_
  refine awp_bigL 0 rfl (fun hB => ?_)
  all_goals refine awp_seq (awp_region (id := 0) ?_)
  all_goals refine awpOps_cons (op_box (o := 0) ty48 rfl (Conv.of rfl) rfl rfl) ?_
  all_goals refine awpOps_cons (op_as rfl (Conv.of rfl) rfl) ?_
  all_goals refine awpOps_nil ?_
  all_goals refine awp_seq (awp_seq (awp_region (id := 1) ?_))
  all_goals refine awpOps_cons (op_as rfl (Conv.of rfl) rfl) ?_
  all_goals refine awpOps_nil ?_
  refine awp_block ?_
  refine awp_loop' (fun n s => ∃ (k : Nat), ∃ (hn : n + k = l.length), ∃ (hall : decide (v ∈ l) = decide (v ∈ l.drop k)), s = mkSt 30 [(0, .v l), (3, .box 0 (IsLens.whole Vote)), (5, .v (k : Int))] [(0, .cell v)]) (l.length) ⟨0, by omega, rfl, rfl⟩ (Le.mk rfl (tle rfl (rfl) rfl (tlb rfl rfl rfl (tle rfl (rfl) rfl tln))) (olk rfl (by exact obOk_cell) oln) noS) ?_
  rintro n s ⟨k, hn, hall, rfl⟩
  all_goals refine awp_seq (awp_seq (awp_region (id := 2) ?_))
  all_goals refine awpOps_cons (op_mv rfl (Conv.of rfl) rfl) ?_
  all_goals refine awpOps_cons (op_mv rfl (Conv.of rfl) rfl) ?_
  all_goals refine awpOps_cons (op_len sl27 rfl rfl) ?_
  all_goals refine awpOps_cons (op_lss rfl rfl rfl) ?_
  all_goals refine awpOps_nil ?_
  refine awp_cond rfl (fun h => ?_) (fun h => ?_)
  · have hlt : k < l.length := by simpa using h
    have hx : l[k]? = some l[k] := List.getElem?_eq_getElem hlt
    have hs := mem_take_at (v := v) hx
    refine awp_skip ?_
    refine awp_seq (awp_block ?_)
    refine awp_seq_to (s' := mkSt 30 [(0, .v l), (3, .box 0 (IsLens.whole Vote)), (5, .v (k : Int)), (29, .v (decide (l[k] = v)))] [(0, .cell v)]) ?_ ?_
    · all_goals refine dr_start (id := 4) ?_
      all_goals refine dr_cons (op_mv rfl (Conv.of rfl) rfl) ?_
      all_goals refine dr_cons (op_mv rfl (Conv.of rfl) rfl) ?_
      all_goals refine dr_cons (op_ix sl27 rfl rfl rfl (by omega) hx) ?_
      all_goals refine dr_cons (op_far f48_0 rfl rfl) ?_
      all_goals refine dr_cons (op_ldr ty3 rfl rfl) ?_
      all_goals refine dr_cons (op_fab f48_0 rfl rfl) ?_
      all_goals refine dr_cons (op_ld ty3 rfl rfl rfl) ?_
      all_goals refine dr_cons (op_eql rfl rfl rfl) ?_
      all_goals refine dr_cons (op_mv rfl (Conv.of rfl) rfl) ?_
      all_goals refine dr_split (t := 20) rfl (fun h => ?_) (fun h => ?_)
      all_goals first | refine dr_cons (g_off rfl rfl rfl rfl rfl) ?_ | refine dr_cons (g_on rfl rfl rfl (op_mv rfl (Conv.of rfl) rfl)) ?_
      all_goals first | refine dr_cons (g_off rfl rfl rfl rfl rfl) ?_ | refine dr_cons (g_on rfl rfl rfl (op_mv rfl (Conv.of rfl) rfl)) ?_
      all_goals first | refine dr_cons (g_off rfl rfl rfl rfl rfl) ?_ | refine dr_cons (g_on rfl rfl rfl (op_ix sl27 rfl rfl rfl (by omega) hx)) ?_
      all_goals first | refine dr_cons (g_off rfl rfl rfl rfl rfl) ?_ | refine dr_cons (g_on rfl rfl rfl (op_far f48_1 rfl rfl)) ?_
      all_goals first | refine dr_cons (g_off rfl rfl rfl rfl rfl) ?_ | refine dr_cons (g_on rfl rfl rfl (op_ldr ty34 rfl rfl)) ?_
      all_goals first | refine dr_cons (g_off rfl rfl rfl rfl rfl) ?_ | refine dr_cons (g_on rfl rfl rfl (op_fab f48_1 rfl rfl)) ?_
      all_goals first | refine dr_cons (g_off rfl rfl rfl rfl rfl) ?_ | refine dr_cons (g_on rfl rfl rfl (op_ld ty34 rfl rfl rfl)) ?_
      all_goals first | refine dr_cons (g_off rfl rfl rfl rfl rfl) ?_ | refine dr_cons (g_on rfl rfl rfl (op_call fb165 (.cons rfl (Conv.of rfl) (.cons rfl (Conv.of rfl) (.nil _))) (l3Same_ct _ _) (argOk rfl rfl (argOk rfl rfl argOk0)) rfl rfl)) ?_
      all_goals refine dr_cons (op_pick rfl rfl rfl rfl) ?_
      all_goals refine dr_nil mixed rfl ?_
      all_goals exact Le.mk rfl (tle rfl (rfl) rfl (tlb rfl rfl rfl (tle rfl (rfl) rfl (tle rfl (by (show AV.v _ = AV.v _; congr 1; clear hall hs; generalize l[k] = u at *; obtain ⟨u1, u2⟩ := u; obtain ⟨v1, v2⟩ := v; simp_all)) rfl tln)))) (olk rfl (by exact obOk_cell) oln) noS
    refine awp_cond rfl (fun h => ?_) (fun h => ?_)
    · all_goals refine awp_seq (awp_region (id := 5) ?_)
      all_goals refine awpOps_cons (op_as rfl (Conv.of rfl) rfl) ?_
      all_goals refine awpOps_nil ?_
      refine awp_ret ?_
      repeat first | refine rt_seq ?_ | refine rt_block ?_
      refine finP (.v rfl (Conv.of rfl)) rfl ?_
      show AV.v true = _
      rw [hall, hs, h, Bool.true_or]
    · refine awp_skip ?_
      all_goals refine awp_region (id := 3) ?_
      all_goals refine awpOps_cons (op_mv rfl (Conv.of rfl) rfl) ?_
      all_goals refine awpOps_cons (op_add rfl rfl rfl (by omega)) ?_
      all_goals refine awpOps_cons (op_as rfl (Conv.of rfl) rfl) ?_
      all_goals refine awpOps_nil ?_
      repeat first | refine nx_seq ?_ | refine nx_block ?_
      exact ⟨n - 1, _, by omega, ⟨k + 1, by omega, by rw [hall, hs, h, Bool.false_or], rfl⟩, Le.mk rfl (tle rfl (rfl) rfl (tlb rfl rfl rfl (tle rfl (rfl) rfl tln))) (olk rfl (by exact obOk_cell) oln) noS⟩
  · refine awp_exit ?_
    repeat refine ex_seq ?_
    refine ex_block ?_
    have hk : l.length ≤ k := by simpa using h
    all_goals refine awp_seq (awp_region (id := 6) ?_)
    all_goals refine awpOps_cons (op_as rfl (Conv.of rfl) rfl) ?_
    all_goals refine awpOps_nil ?_
    refine awp_ret ?_
    repeat first | refine rt_seq ?_ | refine rt_block ?_
    refine finP (.v rfl (Conv.of rfl)) rfl ?_
    show AV.v false = _
    rw [hall, drop_end hk]; simp
theorem l3Many_ct (l : List Vote) (c : List Itm) : CtP Tryz.prog 178 [.v l, .v c] (.v (many l c)) := by
  refine Ct.intro Tryz.func178 rfl rfl ?_
  refine awp_bigL 0 rfl (fun hB => ?_)
  all_goals refine awp_seq (awp_region (id := 0) ?_)
  all_goals refine awpOps_cons (op_as rfl (Conv.of rfl) rfl) ?_
  all_goals refine awpOps_nil ?_
  all_goals refine awp_seq (awp_region (id := 1) ?_)
  all_goals refine awpOps_cons (op_as rfl (Conv.of rfl) rfl) ?_
  all_goals refine awpOps_nil ?_
  all_goals refine awp_seq (awp_seq (awp_region (id := 2) ?_))
  all_goals refine awpOps_cons (op_as rfl (Conv.of rfl) rfl) ?_
  all_goals refine awpOps_nil ?_
  refine awp_block ?_
  refine awp_loop' (fun n s => ∃ (k : Nat), ∃ (m : Int), ∃ (hn : n + k = l.length), ∃ (hm : 0 ≤ m ∧ m ≤ k), ∃ (hall : many l c = manyFrom c (l.drop k) m), s = mkSt 23 [(0, .v l), (1, .v c), (5, .v m), (6, .v (k : Int))] []) (l.length) ⟨0, (0 : Int), by omega, by omega, rfl, rfl⟩ (Le.mk rfl (tle rfl (rfl) rfl (tle rfl (rfl) rfl (tle rfl (rfl) rfl (tle rfl (rfl) rfl tln)))) oln noS) ?_
  rintro n s ⟨k, m, hn, hm, hall, rfl⟩
  all_goals refine awp_seq (awp_seq (awp_region (id := 3) ?_))
  all_goals refine awpOps_cons (op_mv rfl (Conv.of rfl) rfl) ?_
  all_goals refine awpOps_cons (op_mv rfl (Conv.of rfl) rfl) ?_
  all_goals refine awpOps_cons (op_len sl27 rfl rfl) ?_
  all_goals refine awpOps_cons (op_lss rfl rfl rfl) ?_
  all_goals refine awpOps_nil ?_
  refine awp_cond rfl (fun h => ?_) (fun h => ?_)
  · have hlt : k < l.length := by simpa using h
    have hx : l[k]? = some l[k] := List.getElem?_eq_getElem hlt
    have hs := many_drop (c := c) hx m
    refine awp_skip ?_
    refine awp_seq (awp_block ?_)
    all_goals refine awp_seq (awp_region (id := 5) ?_)
    all_goals refine awpOps_cons (op_mv rfl (Conv.of rfl) rfl) ?_
    all_goals refine awpOps_cons (op_mv rfl (Conv.of rfl) rfl) ?_
    all_goals refine awpOps_cons (op_ix sl27 rfl rfl rfl (by omega) hx) ?_
    all_goals refine awpOps_cons (op_far f48_1 rfl rfl) ?_
    all_goals refine awpOps_cons (op_ldr ty34 rfl rfl) ?_
    all_goals refine awpOps_cons (op_mv rfl (Conv.of rfl) rfl) ?_
    all_goals refine awpOps_cons (op_call fb165 (.cons rfl (Conv.of rfl) (.cons rfl (Conv.of rfl) (.nil _))) (l3Same_ct _ _) (argOk rfl rfl (argOk rfl rfl argOk0)) rfl rfl) ?_
    all_goals refine awpOps_nil ?_
    refine awp_cond rfl (fun h => ?_) (fun h => ?_)
    · all_goals refine awp_region (id := 6) ?_
      all_goals refine awpOps_cons (op_mv rfl (Conv.of rfl) rfl) ?_
      all_goals refine awpOps_cons (op_add rfl rfl rfl (by omega)) ?_
      all_goals refine awpOps_cons (op_as rfl (Conv.of rfl) rfl) ?_
      all_goals refine awpOps_nil ?_
      all_goals refine awp_region (id := 4) ?_
      all_goals refine awpOps_cons (op_mv rfl (Conv.of rfl) rfl) ?_
      all_goals refine awpOps_cons (op_add rfl rfl rfl (by omega)) ?_
      all_goals refine awpOps_cons (op_as rfl (Conv.of rfl) rfl) ?_
      all_goals refine awpOps_nil ?_
      repeat first | refine nx_seq ?_ | refine nx_block ?_
      exact ⟨n - 1, _, by omega, ⟨k + 1, m + 1, by omega, by omega, by rw [hall, hs, h]; rfl, rfl⟩, Le.mk rfl (tle rfl (rfl) rfl (tle rfl (rfl) rfl (tle rfl (rfl) rfl (tle rfl (rfl) rfl tln)))) oln noS⟩
    · refine awp_skip ?_
      all_goals refine awp_region (id := 4) ?_
      all_goals refine awpOps_cons (op_mv rfl (Conv.of rfl) rfl) ?_
      all_goals refine awpOps_cons (op_add rfl rfl rfl (by omega)) ?_
      all_goals refine awpOps_cons (op_as rfl (Conv.of rfl) rfl) ?_
      all_goals refine awpOps_nil ?_
      repeat first | refine nx_seq ?_ | refine nx_block ?_
      exact ⟨n - 1, _, by omega, ⟨k + 1, m, by omega, by omega, by rw [hall, hs, h]; rfl, rfl⟩, Le.mk rfl (tle rfl (rfl) rfl (tle rfl (rfl) rfl (tle rfl (rfl) rfl (tle rfl (rfl) rfl tln)))) oln noS⟩
  · refine awp_exit ?_
    repeat refine ex_seq ?_
    refine ex_block ?_
    have hk : l.length ≤ k := by simpa using h
    all_goals refine awp_seq (awp_region (id := 7) ?_)
    all_goals refine awpOps_cons (op_mv rfl (Conv.of rfl) rfl) ?_
    all_goals refine awpOps_cons (op_as rfl (Conv.of rfl) rfl) ?_
    all_goals refine awpOps_nil ?_
    refine awp_ret ?_
    repeat first | refine rt_seq ?_ | refine rt_block ?_
    refine finP (.v rfl (Conv.of rfl)) rfl ?_
    show AV.v _ = _
    rw [hall, drop_end hk]; rfl
theorem l11Sure_ct (l : List Vote) (c : List Itm) : CtP Tryz.prog 168 [.v l, .v c] (.v (sureS l c)) := by
  refine Ct.intro Tryz.func168 rfl rfl ?_
  refine awp_bigL 1 rfl (fun hB => ?_)
  all_goals refine awp_seq (awp_region (id := 0) ?_)
  all_goals refine awpOps_cons (op_as rfl (Conv.of rfl) rfl) ?_
  all_goals refine awpOps_nil ?_
  all_goals refine awp_seq (awp_seq (awp_region (id := 1) ?_))
  all_goals refine awpOps_cons (op_as rfl (Conv.of rfl) rfl) ?_
  all_goals refine awpOps_nil ?_
  refine awp_block ?_
  refine awp_loop' (fun n s => ∃ (k : Nat), ∃ (hn : n + k = c.length), ∃ (hall : sureS l c = sureSFrom l c k n), s = mkSt 18 [(0, .v l), (1, .v c), (5, .v ((k : Int) + 1))] []) (c.length) ⟨0, by omega, rfl, rfl⟩ (Le.mk rfl (tle rfl (rfl) rfl (tle rfl (rfl) rfl (tle rfl (rfl) rfl tln))) oln noS) ?_
  rintro n s ⟨k, hn, hall, rfl⟩
  all_goals refine awp_seq (awp_seq (awp_region (id := 2) ?_))
  all_goals refine awpOps_cons (op_mv rfl (Conv.of rfl) rfl) ?_
  all_goals refine awpOps_cons (op_mv rfl (Conv.of rfl) rfl) ?_
  all_goals refine awpOps_cons (op_len sl34 rfl rfl) ?_
  all_goals refine awpOps_cons (op_leq rfl rfl rfl) ?_
  all_goals refine awpOps_nil ?_
  refine awp_cond rfl (fun h => ?_) (fun h => ?_)
  · have hlt : k < c.length := by simp at h; omega
    obtain ⟨n', rfl⟩ : ∃ n', n = n' + 1 := ⟨n - 1, by omega⟩
    refine awp_skip ?_
    refine awp_seq (awp_block ?_)
    all_goals refine awp_seq (awp_region (id := 4) ?_)
    all_goals refine awpOps_cons (op_mv rfl (Conv.of rfl) rfl) ?_
    all_goals refine awpOps_cons (op_mv rfl (Conv.of rfl) rfl) ?_
    all_goals refine awpOps_cons (op_mv rfl (Conv.of rfl) rfl) ?_
    all_goals refine awpOps_cons (op_slh sl34 rfl rfl rfl (by omega)) ?_
    all_goals refine awpOps_cons (op_call fb178 (.cons rfl (Conv.of rfl) (.cons rfl (Conv.of rfl) (.nil _))) (l3Many_ct _ _) (argOk rfl rfl (argOk rfl rfl argOk0)) rfl rfl) ?_
    all_goals refine awpOps_cons (op_lss rfl rfl rfl) ?_
    all_goals refine awpOps_nil ?_
    refine awp_cond rfl (fun hb => ?_) (fun hb => ?_)
    · all_goals refine awp_seq (awp_region (id := 5) ?_)
      all_goals refine awpOps_cons (op_as rfl (Conv.of rfl) rfl) ?_
      all_goals refine awpOps_nil ?_
      refine awp_ret ?_
      repeat first | refine rt_seq ?_ | refine rt_block ?_
      refine finP (.v rfl (Conv.of rfl)) rfl ?_
      show AV.v false = _
      have hb' : many l (c.take ((k : Int) + 1).toNat) < 3 := by simpa using hb
      rw [hall, sureS_step, decide_eq_false (by rw [show ((k : Int) + 1).toNat = k + 1 by omega] at hb'; omega), Bool.false_and]
    · refine awp_skip ?_
      all_goals refine awp_region (id := 3) ?_
      all_goals refine awpOps_cons (op_mv rfl (Conv.of rfl) rfl) ?_
      all_goals refine awpOps_cons (op_add rfl rfl rfl (by omega)) ?_
      all_goals refine awpOps_cons (op_as rfl (Conv.of rfl) rfl) ?_
      all_goals refine awpOps_nil ?_
      have hb' : 3 ≤ many l (c.take ((k : Int) + 1).toNat) := by simpa using hb
      repeat first | refine nx_seq ?_ | refine nx_block ?_
      exact ⟨n', _, by omega, ⟨k + 1, by omega, by rw [hall, sureS_step, decide_eq_true (by rw [show ((k : Int) + 1).toNat = k + 1 by omega] at hb'; omega), Bool.true_and], rfl⟩, Le.mk rfl (tle rfl (rfl) rfl (tle rfl (rfl) rfl (tle rfl (rfl) rfl tln))) oln noS⟩
  · refine awp_exit ?_
    repeat refine ex_seq ?_
    refine ex_block ?_
    have hk : n = 0 := by simp at h; omega
    subst hk
    all_goals refine awp_seq (awp_region (id := 6) ?_)
    all_goals refine awpOps_cons (op_as rfl (Conv.of rfl) rfl) ?_
    all_goals refine awpOps_nil ?_
    refine awp_ret ?_
    repeat first | refine rt_seq ?_ | refine rt_block ?_
    refine finP (.v rfl (Conv.of rfl)) rfl ?_
    show AV.v true = _
    rw [hall]; rfl
end Go.Proofs.YtmdhfalfppkpeaaGreat

/- The reference: nodes. -/
set_option linter.unusedVariables false
set_option linter.unusedSimpArgs false
namespace Go.Proofs.YtmdhfalfppkpeaaGreat
open Go Go.Wt
theorem l12Enter_ct (n : Nod) (e : Int) (hn : 0 ≤ n.epoch ∧ n.epoch ≤ 30) : CtP Tryz.prog 99 [.v (sN n), .v e] (.v (sN (enterF n e))) := by
  unfold sN
  refine Ct.intro Tryz.func99 rfl rfl ?_
  all_goals refine awp_seq (awp_region (id := 0) ?_)
  all_goals refine awpOps_cons (op_boxm (o := 0) ty41_NodS rfl rfl rfl rfl) ?_
  all_goals refine awpOps_cons (op_alloc (o := 1) z41_NodS rfl rfl) ?_
  all_goals refine awpOps_nil ?_
  all_goals refine awp_seq (awp_seq (awp_region (id := 1) ?_))
  all_goals refine awpOps_cons (op_mv rfl (Conv.of rfl) rfl) ?_
  all_goals refine awpOps_cons (op_fab f41_1_NodS rfl rfl) ?_
  all_goals refine awpOps_cons (op_ld ty3 rfl rfl rfl) ?_
  all_goals refine awpOps_cons (op_add rfl rfl rfl (by ((try simp only [sN]); omega))) ?_
  all_goals refine awpOps_cons (op_call fb80 (.cons rfl (Conv.of rfl) (.cons rfl (Conv.of rfl) (.cons rfl (Conv.of rfl) (.nil _)))) (l6In_ct _ _ _) (argOk rfl rfl (argOk rfl rfl (argOk rfl rfl argOk0))) rfl rfl) ?_
  all_goals refine awpOps_nil ?_
  refine awp_cond rfl (fun h => ?_) (fun h => ?_)
  · all_goals refine awp_region (id := 2) ?_
    all_goals refine awpOps_cons (op_mv rfl (Conv.of rfl) rfl) ?_
    all_goals refine awpOps_cons (op_fab f41_1_NodS rfl rfl) ?_
    all_goals refine awpOps_cons (op_st ty3 rfl rfl (Conv.of rfl) rfl) ?_
    all_goals refine awpOps_nil ?_
    all_goals refine awp_seq (awp_region (id := 3) ?_)
    all_goals refine awpOps_cons (op_ldm ty41_NodS rfl rfl rfl) ?_
    all_goals refine awpOps_cons (op_stm ty41_NodS rfl rfl rfl) ?_
    all_goals refine awpOps_nil ?_
    refine awp_ret ?_
    repeat first | refine rt_seq ?_ | refine rt_block ?_
    refine ⟨_, _, res1C (ol := []) ty41_NodS rfl rfl (fun o ho => absurd (show o ∈ ([] : List Nat) from ho) (by simp)) oln noS, ?_, rfl⟩
    have h' : within e (n.epoch + 1) 30 = true := h
    show AV.v _ = AV.v _
    simp [enterF, h']
  · refine awp_skip ?_
    all_goals refine awp_seq (awp_region (id := 3) ?_)
    all_goals refine awpOps_cons (op_ldm ty41_NodS rfl rfl rfl) ?_
    all_goals refine awpOps_cons (op_stm ty41_NodS rfl rfl rfl) ?_
    all_goals refine awpOps_nil ?_
    refine awp_ret ?_
    repeat first | refine rt_seq ?_ | refine rt_block ?_
    refine ⟨_, _, res1C (ol := []) ty41_NodS rfl rfl (fun o ho => absurd (show o ∈ ([] : List Nat) from ho) (by simp)) oln noS, ?_, rfl⟩
    have h' : within e (n.epoch + 1) 30 = false := h
    show AV.v _ = AV.v _
    simp [enterF, h']
theorem l3Add_ct (l : List Vote) (v : Vote) (hl : l.length ≤ 1000000) (hv : v.chain.length ≤ 1000000) : CtP Tryz.prog 148 [.v (OList.mk l true), .v v] (.tup [.v (OList.mk (if decide (v ∈ l) then l else l ++ [v]) true), .v (!decide (v ∈ l))]) := by
  refine Ct.intro Tryz.func148 rfl rfl ?_
  all_goals refine awp_seq (awp_region (id := 0) ?_)
  all_goals refine awpOps_cons (op_box (o := 0) ty48 rfl (Conv.of rfl) rfl rfl) ?_
  all_goals refine awpOps_cons (op_as rfl (Conv.of rfl) rfl) ?_
  all_goals refine awpOps_cons (op_as rfl (Conv.of rfl) rfl) ?_
  all_goals refine awpOps_nil ?_
  all_goals refine awp_seq (awp_seq (awp_region (id := 1) ?_))
  all_goals refine awpOps_cons (op_mv rfl Conv.ol rfl) ?_
  all_goals refine awpOps_cons (op_ld ty48 rfl rfl rfl) ?_
  all_goals refine awpOps_cons (op_call fb132 (.cons rfl (Conv.of rfl) (.cons rfl (Conv.of rfl) (.nil _))) (l3Has_ct _ _) (argOk rfl rfl (argOk rfl rfl argOk0)) rfl rfl) ?_
  all_goals refine awpOps_nil ?_
  refine awp_cond rfl (fun h => ?_) (fun h => ?_)
  · all_goals refine awp_seq (awp_region (id := 2) ?_)
    all_goals refine awpOps_cons (op_mvl rfl rfl rfl rfl) ?_
    all_goals refine awpOps_cons (op_asl rfl rfl rfl rfl) ?_
    all_goals refine awpOps_cons (op_as rfl (Conv.of rfl) rfl) ?_
    all_goals refine awpOps_nil ?_
    refine awp_ret ?_
    repeat first | refine rt_seq ?_ | refine rt_block ?_
    refine ⟨_, _, resNM (ol := []) (.tmp rfl (.keep (.v rfl (Conv.of rfl)) (.nil _))) rfl (fun o ho => absurd (show o ∈ ([] : List Nat) from ho) (by simp)) oln noS, ?_, rfl⟩
    simp only [h, if_true]
    try rfl
  · refine awp_skip ?_
    all_goals refine awp_seq (awp_region (id := 3) ?_)
    all_goals refine awpOps_cons (op_mvl rfl rfl rfl rfl) ?_
    all_goals refine awpOps_cons (op_ld ty48 rfl rfl rfl) ?_
    all_goals refine awpOps_cons (op_call fb102 (.cons rfl (Conv.of rfl) (.nil _)) (l3VoteCopy_ct _ hv) (argOk rfl rfl argOk0) rfl rfl) ?_
    all_goals refine awpOps_cons (op_bsl sl27 z48 (.cons rfl (Conv.of rfl) (.nil _)) rfl (by decide) rfl) ?_
    all_goals refine awpOps_cons (op_app sl27 z48 ul27 rfl rfl rfl (by (simp; omega)) (by (simp; omega)) rfl rfl) ?_
    all_goals refine awpOps_cons (op_asl rfl rfl rfl rfl) ?_
    all_goals refine awpOps_cons (op_as rfl (Conv.of rfl) rfl) ?_
    all_goals refine awpOps_nil ?_
    refine awp_ret ?_
    repeat first | refine rt_seq ?_ | refine rt_block ?_
    refine ⟨_, _, resNM (ol := []) (.tmp rfl (.keep (.v rfl (Conv.of rfl)) (.nil _))) rfl (fun o ho => absurd (show o ∈ ([] : List Nat) from ho) (by simp)) oln noS, ?_, rfl⟩
    simp only [h]
    try rfl
theorem l12Vote_ct (n : Nod) (c : List Itm) (hn : Gd n.seen) (hc : c.length ≤ 1000000) : CtP Tryz.prog 164 [.v (sN n), .v c] (.tup [.v (sN (voteF n c).1), .v (voteF n c).2.1, .v (voteF n c).2.2]) := by
  have hl := hn.len
  unfold sN
  refine Ct.intro Tryz.func164 rfl rfl ?_
  all_goals refine awp_seq (awp_region (id := 0) ?_)
  all_goals refine awpOps_cons (op_boxm (o := 0) ty41_NodS rfl rfl rfl rfl) ?_
  all_goals refine awpOps_cons (op_alloc (o := 1) z41_NodS rfl rfl) ?_
  all_goals refine awpOps_cons (op_alloc (o := 2) z48 rfl rfl) ?_
  all_goals refine awpOps_cons (op_as rfl (Conv.of rfl) rfl) ?_
  all_goals refine awpOps_nil ?_
  all_goals refine awp_seq (dr_start (id := 1) ?_)
  all_goals refine dr_cons (op_fab f41_0_NodS rfl rfl) ?_
  all_goals refine dr_cons (op_ld ty3 rfl rfl rfl) ?_
  all_goals refine dr_cons (op_mv rfl (Conv.of rfl) rfl) ?_
  all_goals refine dr_cons (op_call fb100 (.cons rfl (Conv.of rfl) (.nil _)) (l1Copy_ct _ hc) (argOk rfl rfl argOk0) rfl rfl) ?_
  all_goals refine dr_cons (op_build (.cons f48_0 rfl (Conv.of rfl) (.cons f48_1 rfl (Conv.ol) (.nil _))) z48 rfl pl48 rfl) ?_
  all_goals refine dr_cons (op_alloc (o := 3) z48 rfl rfl) ?_
  all_goals refine dr_cons (op_st ty48 rfl rfl (Conv.of rfl) rfl) ?_
  all_goals refine dr_nil mixed rfl ?_
  all_goals refine awp_seq (awp_seq (awp_region (id := 2) ?_))
  all_goals refine awpOps_cons (op_fab f41_3_NodS rfl rfl) ?_
  all_goals refine awpOps_cons (op_ldl ty27_OListVote rfl rfl rfl) ?_
  all_goals refine awpOps_cons (op_len sl27 rfl rfl) ?_
  all_goals refine awpOps_cons (op_geq rfl rfl rfl) ?_
  all_goals refine awpOps_nil ?_
  refine awp_cond rfl (fun h => ?_) (fun h => ?_)
  · have h' : decide (80 ≤ n.seen.length) = true := by simp at h ⊢; omega
    all_goals refine awp_seq (awp_region (id := 3) ?_)
    all_goals refine awpOps_cons (op_ldm ty41_NodS rfl rfl rfl) ?_
    all_goals refine awpOps_cons (op_build (.nil _) z48 rfl pl48 rfl) ?_
    all_goals refine awpOps_cons (op_stm ty41_NodS rfl rfl rfl) ?_
    all_goals refine awpOps_cons (op_st ty48 rfl rfl (Conv.of rfl) rfl) ?_
    all_goals refine awpOps_cons (op_as rfl (Conv.of rfl) rfl) ?_
    all_goals refine awpOps_nil ?_
    refine awp_ret ?_
    repeat first | refine rt_seq ?_ | refine rt_block ?_
    refine ⟨_, _, resNM (ol := []) (.cell ty41_NodS rfl rfl (.keep (.rc ty48 rfl rfl) (.keep (.v rfl (Conv.of rfl)) (.nil _)))) rfl (fun o ho => absurd (show o ∈ ([] : List Nat) from ho) (by simp)) oln noS, ?_, rfl⟩
    simp only [voteF, h', if_true]
    try rfl
  · have h' : decide (80 ≤ n.seen.length) = false := by simp at h ⊢; omega
    refine awp_skip ?_
    all_goals refine awp_seq (awp_region (id := 4) ?_)
    all_goals refine awpOps_cons (op_fab f41_1_NodS rfl rfl) ?_
    all_goals refine awpOps_cons (op_ld ty3 rfl rfl rfl) ?_
    all_goals refine awpOps_cons (op_fab f41_2_NodS rfl rfl) ?_
    all_goals refine awpOps_cons (op_st ty3 rfl rfl (Conv.of rfl) rfl) ?_
    all_goals refine awpOps_nil ?_
    all_goals refine awp_seq (dr_start (id := 5) ?_)
    all_goals refine dr_cons (op_fab f41_3_NodS rfl rfl) ?_
    all_goals refine dr_cons (op_ldm ty27_OListVote rfl rfl rfl) ?_
    all_goals refine dr_cons (op_ld ty48 rfl rfl rfl) ?_
    all_goals refine dr_cons (op_call fb102 (.cons rfl (Conv.of rfl) (.nil _)) (l3VoteCopy_ct ⟨n.id, c⟩ hc) (argOk rfl rfl argOk0) rfl rfl) ?_
    all_goals refine dr_cons (op_bsl sl27 z48 (.cons rfl (Conv.of rfl) (.nil _)) rfl (by decide) rfl) ?_
    all_goals refine dr_cons (op_app sl27 z48 ul27 rfl rfl rfl (by (simp; omega)) (by (simp; omega)) rfl rfl) ?_
    all_goals refine dr_cons (op_fab f41_3_NodS rfl rfl) ?_
    all_goals refine dr_cons (op_stm ty27_OListVote rfl rfl rfl) ?_
    all_goals refine dr_nil mixed rfl ?_
    all_goals refine awp_seq (dr_start (id := 6) ?_)
    all_goals refine dr_cons (op_ldm ty41_NodS rfl rfl rfl) ?_
    all_goals refine dr_cons (op_ld ty48 rfl rfl rfl) ?_
    all_goals refine dr_cons (op_stm ty41_NodS rfl rfl rfl) ?_
    all_goals refine dr_cons (op_st ty48 rfl rfl (Conv.of rfl) rfl) ?_
    all_goals refine dr_cons (op_as rfl (Conv.of rfl) rfl) ?_
    all_goals refine dr_nil mixed rfl ?_
    refine awp_ret ?_
    repeat first | refine rt_seq ?_ | refine rt_block ?_
    refine ⟨_, _, resNM (ol := []) (.cell ty41_NodS rfl rfl (.keep (.rc ty48 rfl rfl) (.keep (.v rfl (Conv.of rfl)) (.nil _)))) rfl (fun o ho => absurd (show o ∈ ([] : List Nat) from ho) (by simp)) oln noS, ?_, rfl⟩
    simp only [voteF, h']
    try rfl
theorem l12Fits_ct (n : Nod) (u : Vote) (long : Nat) (hu : 0 < u.chain.length) (hn : 0 ≤ n.epoch ∧ n.epoch ≤ 30) : CtP Tryz.prog 172 [.v (fN n), .v u, .v (long : Int)] (.v (fitsS n u long)) := by
  have hx : u.chain[u.chain.length - 1]? = some (u.chain[u.chain.length - 1]'(by omega)) := List.getElem?_eq_getElem (by omega)
  have hx' : u.chain[((u.chain.length : Int) - 1).toNat]? = some (u.chain[u.chain.length - 1]'(by omega)) := by
    rw [show ((u.chain.length : Int) - 1).toNat = u.chain.length - 1 by omega]; exact hx
  unfold fN
  refine Ct.intro Tryz.func172 rfl rfl ?_
  all_goals refine awp_seq (awp_region (id := 0) ?_)
  all_goals refine awpOps_cons (op_box (o := 0) ty41_NodS rfl (Conv.of rfl) rfl rfl) ?_
  all_goals refine awpOps_cons (op_box (o := 1) ty48 rfl (Conv.of rfl) rfl rfl) ?_
  all_goals refine awpOps_cons (op_as rfl (Conv.of rfl) rfl) ?_
  all_goals refine awpOps_nil ?_
  all_goals refine awp_seq (awp_region (id := 1) ?_)
  all_goals refine awpOps_cons (op_fab f48_1 rfl rfl) ?_
  all_goals refine awpOps_cons (op_ld ty34 rfl rfl rfl) ?_
  refine awpOps_bigL 9 rfl (fun hb => ?_)
  all_goals refine awpOps_cons (op_len sl34 rfl rfl) ?_
  all_goals refine awpOps_cons (op_sub rfl rfl rfl (by omega)) ?_
  all_goals refine awpOps_cons (op_as rfl (Conv.of rfl) rfl) ?_
  all_goals refine awpOps_nil ?_
  all_goals refine awp_seq (dr_start (id := 2) ?_)
  all_goals refine dr_cons (op_fab f48_0 rfl rfl) ?_
  all_goals refine dr_cons (op_ld ty3 rfl rfl rfl) ?_
  all_goals refine dr_cons (op_fab f41_1_NodS rfl rfl) ?_
  all_goals refine dr_cons (op_ld ty3 rfl rfl rfl) ?_
  all_goals refine dr_cons (op_call fb79 (.cons rfl (Conv.of rfl) (.nil _)) (l3Leader_ct _ (by show -1000 ≤ n.epoch ∧ n.epoch ≤ 1000000; omega)) (argOk rfl rfl argOk0) rfl rfl) ?_
  all_goals refine dr_cons (op_eql rfl rfl rfl) ?_
  all_goals refine dr_cons (op_mv rfl (Conv.of rfl) rfl) ?_
  all_goals refine dr_split (t := 18) rfl (fun h => ?_) (fun h => ?_)
  all_goals first | refine dr_cons (g_off rfl rfl rfl rfl rfl) ?_ | refine dr_cons (g_on rfl rfl rfl (op_fab f48_1 rfl rfl)) ?_
  all_goals first | refine dr_cons (g_off rfl rfl rfl rfl rfl) ?_ | refine dr_cons (g_on rfl rfl rfl (op_ld ty34 rfl rfl rfl)) ?_
  all_goals first | refine dr_cons (g_off rfl rfl rfl rfl rfl) ?_ | refine dr_cons (g_on rfl rfl rfl (op_mv rfl (Conv.of rfl) rfl)) ?_
  all_goals first | refine dr_cons (g_off rfl rfl rfl rfl rfl) ?_ | refine dr_cons (g_on rfl rfl rfl (op_ix sl34 rfl rfl rfl (by omega) hx')) ?_
  all_goals first | refine dr_cons (g_off rfl rfl rfl rfl rfl) ?_ | refine dr_cons (g_on rfl rfl rfl (op_far f60_0 rfl rfl)) ?_
  all_goals first | refine dr_cons (g_off rfl rfl rfl rfl rfl) ?_ | refine dr_cons (g_on rfl rfl rfl (op_ldr ty3 rfl rfl)) ?_
  all_goals first | refine dr_cons (g_off rfl rfl rfl rfl rfl) ?_ | refine dr_cons (g_on rfl rfl rfl (op_fab f41_1_NodS rfl rfl)) ?_
  all_goals first | refine dr_cons (g_off rfl rfl rfl rfl rfl) ?_ | refine dr_cons (g_on rfl rfl rfl (op_ld ty3 rfl rfl rfl)) ?_
  all_goals first | refine dr_cons (g_off rfl rfl rfl rfl rfl) ?_ | refine dr_cons (g_on rfl rfl rfl (op_eql rfl rfl rfl)) ?_
  all_goals refine dr_cons (op_pick rfl rfl rfl rfl) ?_
  all_goals refine dr_cons (op_mv rfl (Conv.of rfl) rfl) ?_
  all_goals first | refine dr_lit (t := 29) (b := false) rfl ?_ | refine dr_split (t := 29) rfl (fun h => ?_) (fun h => ?_)
  all_goals first | refine dr_cons (g_off rfl rfl rfl rfl rfl) ?_ | refine dr_cons (g_on rfl rfl rfl (op_mv rfl (Conv.of rfl) rfl)) ?_
  all_goals first | refine dr_cons (g_off rfl rfl rfl rfl rfl) ?_ | refine dr_cons (g_on rfl rfl rfl (op_mv rfl (Conv.of rfl) rfl)) ?_
  all_goals first | refine dr_cons (g_off rfl rfl rfl rfl rfl) ?_ | refine dr_cons (g_on rfl rfl rfl (op_eql rfl rfl rfl)) ?_
  all_goals refine dr_cons (op_pick rfl rfl rfl rfl) ?_
  all_goals refine dr_cons (op_mv rfl (Conv.of rfl) rfl) ?_
  all_goals first | refine dr_lit (t := 34) (b := false) rfl ?_ | refine dr_split (t := 34) rfl (fun h => ?_) (fun h => ?_)
  all_goals first | refine dr_cons (g_off rfl rfl rfl rfl rfl) ?_ | refine dr_cons (g_on rfl rfl rfl (op_fab f41_3_NodS rfl rfl)) ?_
  all_goals first | refine dr_cons (g_off rfl rfl rfl rfl rfl) ?_ | refine dr_cons (g_on rfl rfl rfl (op_ldl ty27_OListVote rfl rfl rfl)) ?_
  all_goals first | refine dr_cons (g_off rfl rfl rfl rfl rfl) ?_ | refine dr_cons (g_on rfl rfl rfl (op_fab f48_1 rfl rfl)) ?_
  all_goals first | refine dr_cons (g_off rfl rfl rfl rfl rfl) ?_ | refine dr_cons (g_on rfl rfl rfl (op_ld ty34 rfl rfl rfl)) ?_
  all_goals first | refine dr_cons (g_off rfl rfl rfl rfl rfl) ?_ | refine dr_cons (g_on rfl rfl rfl (op_mv rfl (Conv.of rfl) rfl)) ?_
  all_goals first | refine dr_cons (g_off rfl rfl rfl rfl rfl) ?_ | refine dr_cons (g_on rfl rfl rfl (op_slh sl34 rfl rfl rfl ⟨by omega, by omega⟩)) ?_
  all_goals first | refine dr_cons (g_off rfl rfl rfl rfl rfl) ?_ | refine dr_cons (g_on rfl rfl rfl (op_call fb168 (.cons rfl (Conv.of rfl) (.cons rfl (Conv.of rfl) (.nil _))) (l11Sure_ct _ _) (argOk rfl rfl (argOk rfl rfl argOk0)) rfl rfl)) ?_
  all_goals refine dr_cons (op_pick rfl rfl rfl rfl) ?_
  all_goals refine dr_cons (op_as rfl (Conv.of rfl) rfl) ?_
  all_goals refine dr_nil mixed rfl ?_
  all_goals refine awp_ret ?_
  all_goals refine finP (.v rfl (Conv.of rfl)) rfl ?_
  all_goals (simp only [FV.av]; congr 1; rw [fitsS_alt hu, lastEp_get hx]; simp_all)
end Go.Proofs.YtmdhfalfppkpeaaGreat

/- The reference: sure chains. -/
set_option linter.unusedVariables false
set_option linter.unusedSimpArgs false
namespace Go.Proofs.YtmdhfalfppkpeaaGreat
open Go Go.Wt
set_option maxHeartbeats 1000000 in
theorem l11All_ct (l : List Vote) (hl : l.length ≤ 100000) (hv : ∀ v ∈ l, v.chain.length ≤ 1000000) : CtP Tryz.prog 137 [.v l] (.v (OList.mk (allOfS l) true)) := by
  refine Ct.intro Tryz.func137 rfl rfl ?_
  all_goals refine awp_seq (awp_region (id := 0) ?_)
  all_goals refine awpOps_cons (op_as rfl (Conv.of rfl) rfl) ?_
  all_goals refine awpOps_nil ?_
  all_goals refine awp_seq (awp_region (id := 1) ?_)
  all_goals refine awpOps_cons (op_bsl sl34 z60 (.nil _) rfl (by decide) rfl) ?_
  all_goals refine awpOps_cons (op_bsl sl33 z34 (.cons rfl (Conv.ol) (.nil _)) rfl (by decide) rfl) ?_
  all_goals refine awpOps_cons (op_asl rfl rfl rfl rfl) ?_
  all_goals refine awpOps_nil ?_
  all_goals refine awp_seq (awp_seq (awp_region (id := 2) ?_))
  all_goals refine awpOps_cons (op_as rfl (Conv.of rfl) rfl) ?_
  all_goals refine awpOps_nil ?_
  refine awp_block ?_
  refine awp_loop' (fun n s => ∃ (k : Nat), ∃ (hn : n + k = l.length), s = mkSt 55 [(0, .v l), (3, .v (OList.mk ((l.take k).foldl (allStepS l) [[]]) true)), (4, .v (k : Int))] []) (l.length) ⟨0, by omega, rfl⟩ (Le.mk rfl (tle rfl (rfl) rfl (tle rfl (by rfl) rfl (tle rfl (rfl) rfl tln))) oln noS) ?_
  rintro n s ⟨k, hn, rfl⟩
  generalize hO : (l.take k).foldl (allStepS l) [[]] = out
  have hout : out.length ≤ 100001 := by
    have := allStepS_len l (l.take k) [[]]
    rw [hO] at this
    simp at this; omega
  all_goals refine awp_seq (awp_seq (awp_region (id := 3) ?_))
  all_goals refine awpOps_cons (op_mv rfl (Conv.of rfl) rfl) ?_
  all_goals refine awpOps_cons (op_mv rfl (Conv.of rfl) rfl) ?_
  all_goals refine awpOps_cons (op_len sl27 rfl rfl) ?_
  all_goals refine awpOps_cons (op_lss rfl rfl rfl) ?_
  all_goals refine awpOps_nil ?_
  refine awp_cond rfl (fun h => ?_) (fun h => ?_)
  · have hlt : k < l.length := by simpa using h
    have hx : l[k]? = some l[k] := List.getElem?_eq_getElem hlt
    refine awp_skip ?_
    refine awp_seq (awp_block ?_)
    all_goals refine awp_seq (awp_region (id := 5) ?_)
    all_goals refine awpOps_cons (op_as rfl (Conv.of rfl) rfl) ?_
    all_goals refine awpOps_nil ?_
    all_goals refine awp_seq (awp_seq (awp_region (id := 6) ?_))
    all_goals refine awpOps_cons (op_as rfl (Conv.of rfl) rfl) ?_
    all_goals refine awpOps_nil ?_
    refine awp_to (s' := mkSt 55 [(0, .v l), (3, .v (OList.mk out true)), (4, .v (k : Int)), (5, .v (decide (l[k].chain ∈ out)))] []) ?_ ?_
    · refine awp_block ?_
      refine awp_loop' (fun n_ s => ∃ (m : Nat), ∃ (hn2 : n_ + m = out.length), s = mkSt 55 [(0, .v l), (3, .v (OList.mk out true)), (4, .v (k : Int)), (5, .v (decide (l[k].chain ∈ out.take m))), (6, .v (m : Int))] []) (out.length) ⟨0, by omega, rfl⟩ (Le.mk rfl (tle rfl (rfl) rfl (tle rfl (rfl) rfl (tle rfl (rfl) rfl (tle rfl (by rfl) rfl (tle rfl (rfl) rfl tln))))) oln noS) ?_
      rintro n_ s ⟨m, hn2, rfl⟩
      all_goals refine awp_seq (awp_seq (awp_region (id := 7) ?_))
      all_goals refine awpOps_cons (op_mv rfl (Conv.of rfl) rfl) ?_
      all_goals refine awpOps_cons (op_mv rfl Conv.ol rfl) ?_
      all_goals refine awpOps_cons (op_len sl33 rfl rfl) ?_
      all_goals refine awpOps_cons (op_lss rfl rfl rfl) ?_
      all_goals refine awpOps_nil ?_
      refine awp_cond rfl (fun h2 => ?_) (fun h2 => ?_)
      · have hlt2 : m < out.length := by simpa using h2
        have hy : out[m]? = some out[m] := List.getElem?_eq_getElem hlt2
        have hs2 := mem_take_c (v := l[k].chain) hy
        refine awp_skip ?_
        refine awp_seq (awp_block ?_)
        refine awp_toB (s' := mkSt 55 [(0, .v l), (3, .v (OList.mk out true)), (4, .v (k : Int)), (5, .v (decide (l[k].chain ∈ out.take (m + 1)))), (6, .v (m : Int))] []) ?_ ?_
        · all_goals refine dr_start (id := 9) ?_
          all_goals refine dr_cons (op_mv rfl (Conv.of rfl) rfl) ?_
          all_goals refine dr_cons (op_mv rfl (Conv.of rfl) rfl) ?_
          all_goals refine dr_split (t := 22) rfl (fun h => ?_) (fun h => ?_)
          all_goals first | refine dr_cons (g_off rfl rfl rfl rfl rfl) ?_ | refine dr_cons (g_on rfl rfl rfl (op_mv rfl Conv.ol rfl)) ?_
          all_goals first | refine dr_cons (g_off rfl rfl rfl rfl rfl) ?_ | refine dr_cons (g_on rfl rfl rfl (op_mv rfl (Conv.of rfl) rfl)) ?_
          all_goals first | refine dr_cons (g_off rfl rfl rfl rfl rfl) ?_ | refine dr_cons (g_on rfl rfl rfl (op_ix sl33 rfl rfl rfl (by omega) hy)) ?_
          all_goals first | refine dr_cons (g_off rfl rfl rfl rfl rfl) ?_ | refine dr_cons (g_on rfl rfl rfl (op_ldr ty34 rfl rfl)) ?_
          all_goals first | refine dr_cons (g_off rfl rfl rfl rfl rfl) ?_ | refine dr_cons (g_on rfl rfl rfl (op_mv rfl (Conv.of rfl) rfl)) ?_
          all_goals first | refine dr_cons (g_off rfl rfl rfl rfl rfl) ?_ | refine dr_cons (g_on rfl rfl rfl (op_mv rfl (Conv.of rfl) rfl)) ?_
          all_goals first | refine dr_cons (g_off rfl rfl rfl rfl rfl) ?_ | refine dr_cons (g_on rfl rfl rfl (op_ix sl27 rfl rfl rfl (by omega) hx)) ?_
          all_goals first | refine dr_cons (g_off rfl rfl rfl rfl rfl) ?_ | refine dr_cons (g_on rfl rfl rfl (op_far f48_1 rfl rfl)) ?_
          all_goals first | refine dr_cons (g_off rfl rfl rfl rfl rfl) ?_ | refine dr_cons (g_on rfl rfl rfl (op_ldr ty34 rfl rfl)) ?_
          all_goals first | refine dr_cons (g_off rfl rfl rfl rfl rfl) ?_ | refine dr_cons (g_on rfl rfl rfl (op_call fb165 (.cons rfl (Conv.of rfl) (.cons rfl (Conv.of rfl) (.nil _))) (l3Same_ct _ _) (argOk rfl rfl (argOk rfl rfl argOk0)) rfl rfl)) ?_
          all_goals refine dr_cons (op_pick rfl rfl rfl rfl) ?_
          all_goals refine dr_cons (op_as rfl (Conv.of rfl) rfl) ?_
          all_goals refine dr_nil mixed rfl ?_
          all_goals exact Le.mk rfl (tle rfl (rfl) rfl (tle rfl (rfl) rfl (tle rfl (rfl) rfl (tle rfl (by (rw [hs2]; clear hs2; simp_all)) rfl (tle rfl (rfl) rfl tln))))) oln noS
        all_goals refine awp_region (id := 8) ?_
        all_goals refine awpOps_cons (op_mv rfl (Conv.of rfl) rfl) ?_
        all_goals refine awpOps_cons (op_add rfl rfl rfl (by omega)) ?_
        all_goals refine awpOps_cons (op_as rfl (Conv.of rfl) rfl) ?_
        all_goals refine awpOps_nil ?_
        repeat first | refine nx_seq ?_ | refine nx_block ?_
        exact ⟨n_ - 1, _, by omega, ⟨m + 1, by omega, rfl⟩, Le.mk rfl (tle rfl (rfl) rfl (tle rfl (rfl) rfl (tle rfl (rfl) rfl (tle rfl (by rfl) rfl (tle rfl (rfl) rfl tln))))) oln noS⟩
      · refine awp_exit ?_
        repeat refine ex_seq ?_
        refine ex_block ?_
        have hm : out.length ≤ m := by simpa using h2
        all_goals exact Le.mk rfl (tle rfl (rfl) rfl (tle rfl (rfl) rfl (tle rfl (rfl) rfl (tle rfl (by (simp only [take_end hm])) rfl tln)))) oln noS
    · refine awp_seq_to (s' := mkSt 55 [(0, .v l), (3, .v (OList.mk out true)), (4, .v (k : Int)), (44, .v (!decide (l[k].chain ∈ out) && sureS l l[k].chain))] []) ?_ ?_
      · all_goals refine awp_region (id := 10) ?_
        all_goals refine awpOps_cons (op_mv rfl (Conv.of rfl) rfl) ?_
        all_goals refine awpOps_cons (op_not rfl rfl) ?_
        all_goals refine awpOps_cons (op_mv rfl (Conv.of rfl) rfl) ?_
        all_goals refine g_split (t := 36) rfl (fun h => ?_) (fun h => ?_)
        all_goals first | refine awpOps_cons (g_off rfl rfl rfl rfl rfl) ?_ | refine awpOps_cons (g_on rfl rfl rfl (op_mv rfl (Conv.of rfl) rfl)) ?_
        all_goals first | refine awpOps_cons (g_off rfl rfl rfl rfl rfl) ?_ | refine awpOps_cons (g_on rfl rfl rfl (op_mv rfl (Conv.of rfl) rfl)) ?_
        all_goals first | refine awpOps_cons (g_off rfl rfl rfl rfl rfl) ?_ | refine awpOps_cons (g_on rfl rfl rfl (op_mv rfl (Conv.of rfl) rfl)) ?_
        all_goals first | refine awpOps_cons (g_off rfl rfl rfl rfl rfl) ?_ | refine awpOps_cons (g_on rfl rfl rfl (op_ix sl27 rfl rfl rfl (by omega) hx)) ?_
        all_goals first | refine awpOps_cons (g_off rfl rfl rfl rfl rfl) ?_ | refine awpOps_cons (g_on rfl rfl rfl (op_far f48_1 rfl rfl)) ?_
        all_goals first | refine awpOps_cons (g_off rfl rfl rfl rfl rfl) ?_ | refine awpOps_cons (g_on rfl rfl rfl (op_ldr ty34 rfl rfl)) ?_
        all_goals first | refine awpOps_cons (g_off rfl rfl rfl rfl rfl) ?_ | refine awpOps_cons (g_on rfl rfl rfl (op_call fb168 (.cons rfl (Conv.of rfl) (.cons rfl (Conv.of rfl) (.nil _))) (l11Sure_ct _ _) (argOk rfl rfl (argOk rfl rfl argOk0)) rfl rfl)) ?_
        all_goals refine awpOps_cons (op_pick rfl rfl rfl rfl) ?_
        all_goals refine awpOps_nil ?_
        all_goals exact Le.mk rfl (tle rfl (rfl) rfl (tle rfl (rfl) rfl (tle rfl (rfl) rfl (tle rfl (by simp_all) rfl tln)))) oln noS
      refine awp_cond rfl (fun hb => ?_) (fun hb => ?_)
      · all_goals refine awp_region (id := 11) ?_
        all_goals refine awpOps_cons (op_mvl rfl rfl rfl rfl) ?_
        all_goals refine awpOps_cons (op_mv rfl (Conv.of rfl) rfl) ?_
        all_goals refine awpOps_cons (op_mv rfl (Conv.of rfl) rfl) ?_
        all_goals refine awpOps_cons (op_ix sl27 rfl rfl rfl (by omega) hx) ?_
        all_goals refine awpOps_cons (op_far f48_1 rfl rfl) ?_
        all_goals refine awpOps_cons (op_ldr ty34 rfl rfl) ?_
        all_goals refine awpOps_cons (op_call fb100 (.cons rfl (Conv.of rfl) (.nil _)) (l1Copy_ct _ (hv _ (List.getElem_mem hlt))) (argOk rfl rfl argOk0) rfl rfl) ?_
        all_goals refine awpOps_cons (op_bsl sl33 z34 (.cons rfl (Conv.ol) (.nil _)) rfl (by decide) rfl) ?_
        all_goals refine awpOps_cons (op_app sl33 z34 ul33 rfl rfl rfl (by (simp; omega)) (by (simp; omega)) rfl rfl) ?_
        all_goals refine awpOps_cons (op_asl rfl rfl rfl rfl) ?_
        all_goals refine awpOps_nil ?_
        all_goals refine awp_region (id := 4) ?_
        all_goals refine awpOps_cons (op_mv rfl (Conv.of rfl) rfl) ?_
        all_goals refine awpOps_cons (op_add rfl rfl rfl (by omega)) ?_
        all_goals refine awpOps_cons (op_as rfl (Conv.of rfl) rfl) ?_
        all_goals refine awpOps_nil ?_
        repeat first | refine nx_seq ?_ | refine nx_block ?_
        exact ⟨n - 1, _, by omega, ⟨k + 1, by omega, rfl⟩, Le.mk rfl (tle rfl (rfl) rfl (tle rfl (by (rw [foldl_at _ _ hx, hO]; simp only [allStepS, hb]; try rfl)) rfl (tle rfl (rfl) rfl tln))) oln noS⟩
      · refine awp_skip ?_
        all_goals refine awp_region (id := 4) ?_
        all_goals refine awpOps_cons (op_mv rfl (Conv.of rfl) rfl) ?_
        all_goals refine awpOps_cons (op_add rfl rfl rfl (by omega)) ?_
        all_goals refine awpOps_cons (op_as rfl (Conv.of rfl) rfl) ?_
        all_goals refine awpOps_nil ?_
        repeat first | refine nx_seq ?_ | refine nx_block ?_
        exact ⟨n - 1, _, by omega, ⟨k + 1, by omega, rfl⟩, Le.mk rfl (tle rfl (rfl) rfl (tle rfl (by (rw [foldl_at _ _ hx, hO]; simp only [allStepS, hb]; try rfl)) rfl (tle rfl (rfl) rfl tln))) oln noS⟩
  · refine awp_exit ?_
    repeat refine ex_seq ?_
    refine ex_block ?_
    have hk : l.length ≤ k := by simpa using h
    all_goals refine awp_seq (awp_region (id := 12) ?_)
    all_goals refine awpOps_cons (op_mvl rfl rfl rfl rfl) ?_
    all_goals refine awpOps_cons (op_asl rfl rfl rfl rfl) ?_
    all_goals refine awpOps_nil ?_
    refine awp_ret ?_
    repeat first | refine rt_seq ?_ | refine rt_block ?_
    exact finM rfl rfl (by rw [← hO, take_end hk]; rfl)
theorem l11Tip_ct (l : List Vote) (hl : l.length ≤ 100000) (hv : ∀ v ∈ l, v.chain.length ≤ 1000000) : CtP Tryz.prog 101 [.v l] (.v (tipOfS l)) := by
  have h0 := allOfS_0 l
  have hall : (allOfS l).length ≤ 100001 := by
    have := allStepS_len l l [[]]
    simp at this; unfold allOfS; omega
  have hpos : 0 < (allOfS l).length := (List.getElem?_eq_some_iff.1 h0).1
  refine Ct.intro Tryz.func101 rfl rfl ?_
  all_goals refine awp_seq (awp_region (id := 0) ?_)
  all_goals refine awpOps_cons (op_as rfl (Conv.of rfl) rfl) ?_
  all_goals refine awpOps_nil ?_
  all_goals refine awp_seq (awp_region (id := 1) ?_)
  all_goals refine awpOps_cons (op_mv rfl (Conv.of rfl) rfl) ?_
  all_goals refine awpOps_cons (op_call fb137 (.cons rfl (Conv.of rfl) (.nil _)) (l11All_ct l hl hv) (argOk rfl rfl argOk0) rfl rfl) ?_
  all_goals refine awpOps_cons (op_as rfl Conv.ol rfl) ?_
  all_goals refine awpOps_nil ?_
  all_goals refine awp_seq (awp_region (id := 2) ?_)
  all_goals refine awpOps_cons (op_mv rfl (Conv.of rfl) rfl) ?_
  all_goals refine awpOps_cons (op_ix sl33 rfl rfl rfl (by omega) h0) ?_
  all_goals refine awpOps_cons (op_ldr ty34 rfl rfl) ?_
  all_goals refine awpOps_cons (op_as rfl (Conv.of rfl) rfl) ?_
  all_goals refine awpOps_nil ?_
  all_goals refine awp_seq (awp_seq (awp_region (id := 3) ?_))
  all_goals refine awpOps_cons (op_as rfl (Conv.of rfl) rfl) ?_
  all_goals refine awpOps_nil ?_
  refine awp_block ?_
  refine awp_loop' (fun n s => ∃ (k : Nat), ∃ (hn : n + k = (allOfS l).length), ∃ (hk1 : 1 ≤ k), s = mkSt 30 [(3, .v (allOfS l)), (4, .v (((allOfS l).take k).foldl tipStep [])), (5, .v (k : Int))] []) ((allOfS l).length - 1) ⟨1, by omega, Nat.le_refl _, rfl⟩ (Le.mk rfl (tle rfl (rfl) rfl (tle rfl (by (first | (show AV.v _ = AV.v _; rw [show (allOfS l).take 1 = [[]] from by rw [take_at h0]; rfl]; rfl) | rw [foldl_at _ _ hx]; simp only [tipStep, hb'']; try rfl)) rfl (tle rfl (rfl) rfl tln))) oln noS) ?_
  rintro n s ⟨k, hn, hk1, rfl⟩
  all_goals refine awp_seq (awp_seq (awp_region (id := 4) ?_))
  all_goals refine awpOps_cons (op_mv rfl (Conv.of rfl) rfl) ?_
  all_goals refine awpOps_cons (op_mv rfl (Conv.of rfl) rfl) ?_
  all_goals refine awpOps_cons (op_len sl33 rfl rfl) ?_
  all_goals refine awpOps_cons (op_lss rfl rfl rfl) ?_
  all_goals refine awpOps_nil ?_
  refine awp_cond rfl (fun h => ?_) (fun h => ?_)
  · have hlt : k < (allOfS l).length := by simpa using h
    have hx : (allOfS l)[k]? = some (allOfS l)[k] := List.getElem?_eq_getElem hlt
    refine awp_skip ?_
    refine awp_seq (awp_block ?_)
    all_goals refine awp_seq (awp_region (id := 6) ?_)
    all_goals refine awpOps_cons (op_mv rfl (Conv.of rfl) rfl) ?_
    all_goals refine awpOps_cons (op_mv rfl (Conv.of rfl) rfl) ?_
    all_goals refine awpOps_cons (op_ix sl33 rfl rfl rfl (by omega) hx) ?_
    all_goals refine awpOps_cons (op_ldr ty34 rfl rfl) ?_
    all_goals refine awpOps_cons (op_len sl34 rfl rfl) ?_
    all_goals refine awpOps_cons (op_mv rfl (Conv.of rfl) rfl) ?_
    all_goals refine awpOps_cons (op_len sl34 rfl rfl) ?_
    all_goals refine awpOps_cons (op_gtr rfl rfl rfl) ?_
    all_goals refine awpOps_nil ?_
    refine awp_cond rfl (fun hb => ?_) (fun hb => ?_)
    · have hb'' : decide ((((allOfS l).take k).foldl tipStep []).length < ((allOfS l)[k]).length) = true := by simp at hb ⊢; omega
      all_goals refine awp_region (id := 7) ?_
      all_goals refine awpOps_cons (op_mv rfl (Conv.of rfl) rfl) ?_
      all_goals refine awpOps_cons (op_mv rfl (Conv.of rfl) rfl) ?_
      all_goals refine awpOps_cons (op_ix sl33 rfl rfl rfl (by omega) hx) ?_
      all_goals refine awpOps_cons (op_ldr ty34 rfl rfl) ?_
      all_goals refine awpOps_cons (op_as rfl (Conv.of rfl) rfl) ?_
      all_goals refine awpOps_nil ?_
      all_goals refine awp_region (id := 5) ?_
      all_goals refine awpOps_cons (op_mv rfl (Conv.of rfl) rfl) ?_
      all_goals refine awpOps_cons (op_add rfl rfl rfl (by omega)) ?_
      all_goals refine awpOps_cons (op_as rfl (Conv.of rfl) rfl) ?_
      all_goals refine awpOps_nil ?_
      repeat first | refine nx_seq ?_ | refine nx_block ?_
      exact ⟨n - 1, _, by omega, ⟨k + 1, by omega, by omega, rfl⟩, Le.mk rfl (tle rfl (rfl) rfl (tle rfl (by (first | (show AV.v _ = AV.v _; rw [show (allOfS l).take 1 = [[]] from by rw [take_at h0]; rfl]; rfl) | rw [foldl_at _ _ hx]; simp only [tipStep, hb'']; try rfl)) rfl (tle rfl (rfl) rfl tln))) oln noS⟩
    · have hb'' : decide ((((allOfS l).take k).foldl tipStep []).length < ((allOfS l)[k]).length) = false := by simp at hb ⊢; omega
      refine awp_skip ?_
      all_goals refine awp_region (id := 5) ?_
      all_goals refine awpOps_cons (op_mv rfl (Conv.of rfl) rfl) ?_
      all_goals refine awpOps_cons (op_add rfl rfl rfl (by omega)) ?_
      all_goals refine awpOps_cons (op_as rfl (Conv.of rfl) rfl) ?_
      all_goals refine awpOps_nil ?_
      repeat first | refine nx_seq ?_ | refine nx_block ?_
      exact ⟨n - 1, _, by omega, ⟨k + 1, by omega, by omega, rfl⟩, Le.mk rfl (tle rfl (rfl) rfl (tle rfl (by (first | (show AV.v _ = AV.v _; rw [show (allOfS l).take 1 = [[]] from by rw [take_at h0]; rfl]; rfl) | rw [foldl_at _ _ hx]; simp only [tipStep, hb'']; try rfl)) rfl (tle rfl (rfl) rfl tln))) oln noS⟩
  · refine awp_exit ?_
    repeat refine ex_seq ?_
    refine ex_block ?_
    have hk : (allOfS l).length ≤ k := by simpa using h
    all_goals refine awp_seq (awp_region (id := 8) ?_)
    all_goals refine awpOps_cons (op_mv rfl (Conv.of rfl) rfl) ?_
    all_goals refine awpOps_cons (op_as rfl (Conv.of rfl) rfl) ?_
    all_goals refine awpOps_nil ?_
    refine awp_ret ?_
    repeat first | refine rt_seq ?_ | refine rt_block ?_
    refine finP (.v rfl (Conv.of rfl)) rfl ?_
    simp only [take_end hk]; rfl
end Go.Proofs.YtmdhfalfppkpeaaGreat

/- The reference: a node proposes. -/
set_option linter.unusedVariables false
set_option linter.unusedSimpArgs false
namespace Go.Proofs.YtmdhfalfppkpeaaGreat
open Go Go.Wt
set_option maxHeartbeats 1000000 in
theorem l12Propose_ct (n : Nod) (p : Pay) (hn : Gd n.seen) (he : 0 ≤ n.epoch ∧ n.epoch ≤ 30) : CtP Tryz.prog 131 [.v (sN n), .v p] (res3S (proposeS n p)) := by
  have htip := hn.tipS
  unfold sN
  refine Ct.intro Tryz.func131 rfl rfl ?_
  all_goals refine awp_seq (awp_region (id := 0) ?_)
  all_goals refine awpOps_cons (op_boxm (o := 0) ty41_NodS rfl rfl rfl rfl) ?_
  all_goals refine awpOps_cons (op_box (o := 1) ty58 rfl (Conv.of rfl) rfl rfl) ?_
  all_goals refine awpOps_cons (op_alloc (o := 2) z41_NodS rfl rfl) ?_
  all_goals refine awpOps_cons (op_alloc (o := 3) z48 rfl rfl) ?_
  all_goals refine awpOps_cons (op_as rfl (Conv.of rfl) rfl) ?_
  all_goals refine awpOps_nil ?_
  refine awp_seq (awp_seq_to (s' := mkSt 49 [(2, .box 0 (IsLens.whole NodS)), (3, .box 1 (IsLens.whole Pay)), (4, .box 2 (IsLens.whole NodS)), (5, .box 3 (IsLens.whole Vote)), (6, .v false), (25, .v (decide (n.epoch = 0) || decide (n.voted = n.epoch) || !decide (leadS n.epoch = n.id)))] [(0, .cell (sN n)), (1, .cell p), (2, .cell NodS.zero), (3, .cell Vote.zero)]) ?_ ?_)
  · all_goals refine dr_start (id := 1) ?_
    all_goals refine dr_cons (op_fab f41_1_NodS rfl rfl) ?_
    all_goals refine dr_cons (op_ld ty3 rfl rfl rfl) ?_
    all_goals refine dr_cons (op_eql rfl rfl rfl) ?_
    all_goals refine dr_cons (op_mv rfl (Conv.of rfl) rfl) ?_
    all_goals refine dr_split (t := 11) rfl (fun h => ?_) (fun h => ?_)
    all_goals first | refine dr_cons (g_off rfl rfl rfl rfl rfl) ?_ | refine dr_cons (g_on rfl rfl rfl (op_fab f41_2_NodS rfl rfl)) ?_
    all_goals first | refine dr_cons (g_off rfl rfl rfl rfl rfl) ?_ | refine dr_cons (g_on rfl rfl rfl (op_ld ty3 rfl rfl rfl)) ?_
    all_goals first | refine dr_cons (g_off rfl rfl rfl rfl rfl) ?_ | refine dr_cons (g_on rfl rfl rfl (op_fab f41_1_NodS rfl rfl)) ?_
    all_goals first | refine dr_cons (g_off rfl rfl rfl rfl rfl) ?_ | refine dr_cons (g_on rfl rfl rfl (op_ld ty3 rfl rfl rfl)) ?_
    all_goals first | refine dr_cons (g_off rfl rfl rfl rfl rfl) ?_ | refine dr_cons (g_on rfl rfl rfl (op_eql rfl rfl rfl)) ?_
    all_goals refine dr_cons (op_pick rfl rfl rfl rfl) ?_
    all_goals refine dr_cons (op_mv rfl (Conv.of rfl) rfl) ?_
    all_goals first | refine dr_lit (t := 18) (b := true) rfl ?_ | refine dr_split (t := 18) rfl (fun h => ?_) (fun h => ?_)
    all_goals first | refine dr_cons (g_off rfl rfl rfl rfl rfl) ?_ | refine dr_cons (g_on rfl rfl rfl (op_fab f41_1_NodS rfl rfl)) ?_
    all_goals first | refine dr_cons (g_off rfl rfl rfl rfl rfl) ?_ | refine dr_cons (g_on rfl rfl rfl (op_ld ty3 rfl rfl rfl)) ?_
    all_goals first | refine dr_cons (g_off rfl rfl rfl rfl rfl) ?_ | refine dr_cons (g_on rfl rfl rfl (op_call fb79 (.cons rfl (Conv.of rfl) (.nil _)) (l3Leader_ct _ (by show -1000 ≤ n.epoch ∧ n.epoch ≤ 1000000; omega)) (argOk rfl rfl argOk0) rfl rfl)) ?_
    all_goals first | refine dr_cons (g_off rfl rfl rfl rfl rfl) ?_ | refine dr_cons (g_on rfl rfl rfl (op_fab f41_0_NodS rfl rfl)) ?_
    all_goals first | refine dr_cons (g_off rfl rfl rfl rfl rfl) ?_ | refine dr_cons (g_on rfl rfl rfl (op_ld ty3 rfl rfl rfl)) ?_
    all_goals first | refine dr_cons (g_off rfl rfl rfl rfl rfl) ?_ | refine dr_cons (g_on rfl rfl rfl (op_neq rfl rfl rfl)) ?_
    all_goals refine dr_cons (op_pick rfl rfl rfl rfl) ?_
    all_goals refine dr_nil mixed rfl ?_
    all_goals exact Le.mk rfl (tlb rfl rfl rfl (tlb rfl rfl rfl (tlb rfl rfl rfl (tlb rfl rfl rfl (tle rfl (rfl) rfl (tle rfl (by (clear htip; simp_all [sN]; try (rw [Bool.eq_iff_iff]; simp))) rfl tln)))))) (olk rfl (by exact obOkN) (olk rfl (by exact obOk_cell) (olk rfl (by exact obOkN) (olk rfl (by exact obOk_cell) oln)))) noS
  refine awp_cond rfl (fun h => ?_) (fun h => ?_)
  · all_goals refine awp_seq (awp_region (id := 2) ?_)
    all_goals refine awpOps_cons (op_ldm ty41_NodS rfl rfl rfl) ?_
    all_goals refine awpOps_cons (op_build (.nil _) z48 rfl pl48 rfl) ?_
    all_goals refine awpOps_cons (op_stm ty41_NodS rfl rfl rfl) ?_
    all_goals refine awpOps_cons (op_st ty48 rfl rfl (Conv.of rfl) rfl) ?_
    all_goals refine awpOps_cons (op_as rfl (Conv.of rfl) rfl) ?_
    all_goals refine awpOps_nil ?_
    refine awp_ret ?_
    repeat first | refine rt_seq ?_ | refine rt_block ?_
    refine ⟨_, _, resNM (ol := []) (.cell ty41_NodS rfl rfl (.keep (.rc ty48 rfl rfl) (.keep (.v rfl (Conv.of rfl)) (.nil _)))) rfl (fun o ho => absurd (show o ∈ ([] : List Nat) from ho) (by simp)) oln noS, ?_, rfl⟩
    rw [proposeS, h, if_pos rfl]; rfl
  · refine awp_skip ?_
    all_goals refine awp_seq (dr_start (id := 3) ?_)
    all_goals refine dr_cons (op_fab f41_3_NodS rfl rfl) ?_
    all_goals refine dr_cons (op_ldl ty27_OListVote rfl rfl rfl) ?_
    all_goals refine dr_cons (op_call fb101 (.cons rfl (Conv.of rfl) (.nil _)) (l11Tip_ct _ hn.l hn.v) (argOk rfl rfl argOk0) rfl rfl) ?_
    all_goals refine dr_cons (op_call fb100 (.cons rfl (Conv.of rfl) (.nil _)) (l1Copy_ct _ (by show (tipOfS n.seen).length ≤ 1000000; omega)) (argOk rfl rfl argOk0) rfl rfl) ?_
    all_goals refine dr_cons (op_fab f41_1_NodS rfl rfl) ?_
    all_goals refine dr_cons (op_ld ty3 rfl rfl rfl) ?_
    all_goals refine dr_cons (op_ld ty58 rfl rfl rfl) ?_
    all_goals refine dr_cons (op_build (.cons f60_0 rfl (Conv.of rfl) (.cons f60_1 rfl (Conv.of rfl) (.nil _))) z60 rfl pl60 rfl) ?_
    all_goals refine dr_cons (op_bsl sl34 z60 (.cons rfl (Conv.of rfl) (.nil _)) rfl (by decide) rfl) ?_
    all_goals refine dr_cons (op_app sl34 z60 ul34 rfl rfl rfl (by (simp [sN]; omega)) (by (simp [sN]; omega)) rfl rfl) ?_
    all_goals refine dr_cons (op_asl rfl rfl rfl rfl) ?_
    all_goals refine dr_nil mixed rfl ?_
    all_goals refine awp_seq (awp_seq (awp_region (id := 4) ?_))
    all_goals refine awpOps_cons (op_mv rfl Conv.ol rfl) ?_
    all_goals refine awpOps_cons (op_call fb143 (.cons rfl (Conv.of rfl) (.nil _)) (sChainOk_ct _) (argOk rfl rfl argOk0) rfl rfl) ?_
    all_goals refine awpOps_cons (op_not rfl rfl) ?_
    all_goals refine awpOps_nil ?_
    refine awp_cond rfl (fun h2 => ?_) (fun h2 => ?_)
    · all_goals refine awp_seq (awp_region (id := 5) ?_)
      all_goals refine awpOps_cons (op_ldm ty41_NodS rfl rfl rfl) ?_
      all_goals refine awpOps_cons (op_build (.nil _) z48 rfl pl48 rfl) ?_
      all_goals refine awpOps_cons (op_stm ty41_NodS rfl rfl rfl) ?_
      all_goals refine awpOps_cons (op_st ty48 rfl rfl (Conv.of rfl) rfl) ?_
      all_goals refine awpOps_cons (op_as rfl (Conv.of rfl) rfl) ?_
      all_goals refine awpOps_nil ?_
      refine awp_ret ?_
      repeat first | refine rt_seq ?_ | refine rt_block ?_
      refine ⟨_, _, resNM (ol := []) (.cell ty41_NodS rfl rfl (.keep (.rc ty48 rfl rfl) (.keep (.v rfl (Conv.of rfl)) (.nil _)))) rfl (fun o ho => absurd (show o ∈ ([] : List Nat) from ho) (by simp)) oln noS, ?_, rfl⟩
      have h2' := not_t h2
      rw [proposeS, h, if_neg (by decide), if_neg (by rw [show chainOk (tipOfS n.seen ++ [⟨n.epoch, p⟩]) = false from h2']; decide)]; rfl
    · have h2' := not_f h2
      refine awp_skip ?_
      all_goals refine awp_seq (awp_region (id := 6) ?_)
      all_goals refine awpOps_cons (op_ldm ty41_NodS rfl rfl rfl) ?_
      all_goals refine awpOps_cons (op_mv rfl Conv.ol rfl) ?_
      all_goals refine awpOps_cons (op_callM (s := 43) (ol := []) (ol' := []) (pre := []) fb164 (.nil _) rfl (.cons rfl (Conv.of rfl) (.nil _)) (l12Vote_ct n _ hn (by simp [sN]; omega)) ols0 oks0 oks0 rfl argO0 (argOk' rfl rfl argO0) (fun o ho => absurd (show o ∈ ([] : List Nat) from ho) (by simp)) (fun o ho => absurd (show o ∈ ([] : List Nat) from ho) (by simp)) rfl) ?_
      all_goals refine awpOps_cons (op_extm rfl rfl rfl rfl) ?_
      all_goals refine awpOps_cons (op_ext rfl rfl rfl) ?_
      all_goals refine awpOps_cons (op_ext rfl rfl rfl) ?_
      all_goals refine awpOps_cons (op_stm ty41_NodS rfl rfl rfl) ?_
      all_goals refine awpOps_cons (op_st ty48 rfl rfl (Conv.of rfl) rfl) ?_
      all_goals refine awpOps_cons (op_as rfl (Conv.of rfl) rfl) ?_
      all_goals refine awpOps_nil ?_
      refine awp_ret ?_
      repeat first | refine rt_seq ?_ | refine rt_block ?_
      refine ⟨_, _, resNM (ol := []) (.cell ty41_NodS rfl rfl (.keep (.rc ty48 rfl rfl) (.keep (.v rfl (Conv.of rfl)) (.nil _)))) rfl (fun o ho => absurd (show o ∈ ([] : List Nat) from ho) (by simp)) oln noS, ?_, rfl⟩
      rw [proposeS, h, if_neg (by decide), if_pos (show chainOk (tipOfS n.seen ++ [⟨n.epoch, p⟩]) = true from h2')]
      show AV.tup _ = AV.tup _
      rfl
end Go.Proofs.YtmdhfalfppkpeaaGreat

/- The reference: new nodes; room for votes. -/
set_option linter.unusedVariables false
set_option linter.unusedSimpArgs false
namespace Go.Proofs.YtmdhfalfppkpeaaGreat
open Go Go.Wt
theorem sNodeNew_ct (i : Int) (hi : within i 1 4 = true) : CtP Tryz.prog 116 [.v i] (.tup [.v (NodC.mk i 0 0 ⟨[]⟩), .v true]) := by
  refine Ct.intro Tryz.func116 rfl rfl ?_
  all_goals refine awp_seq (awp_region (id := 0) ?_)
  all_goals refine awpOps_cons (op_alloc (o := 0) z41_NodC rfl rfl) ?_
  all_goals refine awpOps_cons (op_as rfl (Conv.of rfl) rfl) ?_
  all_goals refine awpOps_nil ?_
  all_goals refine awp_seq (awp_seq (awp_region (id := 1) ?_))
  all_goals refine awpOps_cons (op_mv rfl (Conv.of rfl) rfl) ?_
  all_goals refine awpOps_cons (op_call fb80 (.cons rfl (Conv.of rfl) (.cons rfl (Conv.of rfl) (.cons rfl (Conv.of rfl) (.nil _)))) (l6In_ct _ _ _) (argOk rfl rfl (argOk rfl rfl (argOk rfl rfl argOk0))) rfl rfl) ?_
  all_goals refine awpOps_cons (op_not rfl rfl) ?_
  all_goals refine awpOps_nil ?_
  refine awp_cond rfl (fun h => absurd (not_t h) (by rw [hi]; decide)) (fun h => ?_)
  refine awp_skip ?_
  all_goals refine awp_seq (awp_region (id := 3) ?_)
  all_goals refine awpOps_cons (op_mv rfl (Conv.of rfl) rfl) ?_
  all_goals refine awpOps_cons (op_bsc sl27 z48 (.nil _) rfl (by decide) rfl) ?_
  all_goals refine awpOps_cons (op_build (.cons f41_0_NodC rfl (Conv.of rfl) (.cons f41_3_NodC rfl (Conv.of rfl) (.nil _))) z41_NodC rfl pl41 rfl) ?_
  all_goals refine awpOps_cons (op_st ty41_NodC rfl rfl (Conv.of rfl) rfl) ?_
  all_goals refine awpOps_cons (op_as rfl (Conv.of rfl) rfl) ?_
  all_goals refine awpOps_nil ?_
  refine awp_ret ?_
  repeat first | refine rt_seq ?_ | refine rt_block ?_
  exact finN (.cons (.rc ty41_NodC rfl rfl) (.cons (.v rfl (Conv.of rfl)) .nil)) rfl rfl rfl
theorem l21Send_ct (w : Wrld) (v : Vote) (ok : Bool) (ns : List NodS) (hl : Gd w.log) (hv : v.chain.length ≤ 1000000) : CtO Tryz.prog 119 [.v (sW w), .v v, .v ok] [(1, .arr ns)] (.v (sW (if ok then sendF w v else w))) [(1, .arr ns)] := by
  have hlen := hl.len
  unfold sW
  refine Ct.intro Tryz.func119 rfl rfl ?_
  all_goals refine awp_seq (awp_region (id := 0) ?_)
  all_goals refine awpOps_cons (op_boxm (o := 5) ty29_WrldS rfl rfl rfl rfl) ?_
  all_goals refine awpOps_cons (op_box (o := 6) ty48 rfl (Conv.of rfl) rfl rfl) ?_
  all_goals refine awpOps_cons (op_alloc (o := 7) z29_WrldS rfl rfl) ?_
  all_goals refine awpOps_nil ?_
  refine awp_seq (awp_seq_to (s' := mkSt 26 [(3, .box 5 (IsLens.whole WrldS)), (4, .box 6 (IsLens.whole Vote)), (6, .box 7 (IsLens.whole WrldS)), (15, .v (ok && decide (w.log.length < 80)))] [(1, .arr ns), (5, .cell (sW w)), (6, .cell v), (7, .cell WrldS.zero)]) ?_ ?_)
  · all_goals refine awp_region (id := 1) ?_
    all_goals refine awpOps_cons (op_mv rfl (Conv.of rfl) rfl) ?_
    all_goals refine awpOps_cons (op_mv rfl (Conv.of rfl) rfl) ?_
    all_goals refine g_split (t := 10) rfl (fun h => ?_) (fun h => ?_)
    all_goals first | refine awpOps_cons (g_off rfl rfl rfl rfl rfl) ?_ | refine awpOps_cons (g_on rfl rfl rfl (op_fab f29_2_WrldS rfl rfl)) ?_
    all_goals first | refine awpOps_cons (g_off rfl rfl rfl rfl rfl) ?_ | refine awpOps_cons (g_on rfl rfl rfl (op_ldl ty27_OListVote rfl rfl rfl)) ?_
    all_goals first | refine awpOps_cons (g_off rfl rfl rfl rfl rfl) ?_ | refine awpOps_cons (g_on rfl rfl rfl (op_len sl27 rfl rfl)) ?_
    all_goals first | refine awpOps_cons (g_off rfl rfl rfl rfl rfl) ?_ | refine awpOps_cons (g_on rfl rfl rfl (op_lss rfl rfl rfl)) ?_
    all_goals refine awpOps_cons (op_pick rfl rfl rfl rfl) ?_
    all_goals refine awpOps_nil ?_
    all_goals exact Le.mk rfl (tlb rfl rfl rfl (tlb rfl rfl rfl (tlb rfl rfl rfl (tle rfl (by (simp_all; try omega)) rfl tln)))) (olk rfl (by exact obOkNs) (olk rfl (by exact obOkS rfl) (olk rfl (by exact obOk_cell) (olk rfl (by exact obOkS0) oln)))) (hS_sub (a := [(1, .arr ns)]) rfl)
  refine awp_cond rfl (fun h => ?_) (fun h => ?_)
  · all_goals refine awp_seq (awp_region (id := 2) ?_)
    all_goals refine awpOps_cons (op_fab f29_2_WrldS rfl rfl) ?_
    all_goals refine awpOps_cons (op_ldm ty27_OListVote rfl rfl rfl) ?_
    all_goals refine awpOps_cons (op_ld ty48 rfl rfl rfl) ?_
    all_goals refine awpOps_cons (op_callM (s := 18) (ol := []) (ol' := []) (pre := []) fb148 (.nil _) rfl (.cons rfl (Conv.of rfl) (.nil _)) (l3Add_ct w.log v hl.l' hv) ols0 oks0 oks0 rfl argO0 (argOk' rfl rfl argO0) (fun o ho => absurd (show o ∈ ([] : List Nat) from ho) (by simp)) (fun o ho => absurd (show o ∈ ([] : List Nat) from ho) (by simp)) rfl) ?_
    all_goals refine awpOps_cons (op_mvo rfl rfl rfl rfl) ?_
    all_goals refine awpOps_cons (op_extm rfl rfl rfl rfl) ?_
    all_goals refine awpOps_cons (op_ext rfl rfl rfl) ?_
    all_goals refine awpOps_cons (op_asl rfl rfl rfl rfl) ?_
    all_goals refine awpOps_cons (op_as rfl (Conv.of rfl) rfl) ?_
    all_goals refine awpOps_nil ?_
    all_goals refine awp_region (id := 3) ?_
    all_goals refine awpOps_cons (op_mvl rfl rfl rfl rfl) ?_
    all_goals refine awpOps_cons (op_fab f29_2_WrldS rfl rfl) ?_
    all_goals refine awpOps_cons (op_stm ty27_OListVote rfl rfl rfl) ?_
    all_goals refine awpOps_nil ?_
    all_goals refine awp_seq (awp_region (id := 4) ?_)
    all_goals refine awpOps_cons (op_ldm ty29_WrldS rfl rfl rfl) ?_
    all_goals refine awpOps_cons (op_stm ty29_WrldS rfl rfl rfl) ?_
    all_goals refine awpOps_nil ?_
    refine awp_ret ?_
    repeat first | refine rt_seq ?_ | refine rt_block ?_
    refine ⟨_, _, res1C (ol := [(1, .arr ns)]) ty29_WrldS rfl rfl (fun o ho => ?_) (olk rfl obOkNs oln) (hS_sub rfl), ?_, rfl⟩
    · have : o = 1 := by simpa using (show o ∈ [1] from ho)
      subst this; rfl
    · simp only [Bool.and_eq_true, decide_eq_true_eq] at h
      obtain ⟨rfl, h2⟩ := h
      show AV.v (WrldS.mk w.epoch (.ref 1) ⟨if decide (v ∈ w.log) then w.log else w.log ++ [v], true⟩ w.bad) = _
      by_cases hm : v ∈ w.log <;> simp [sendF, hm, h2, sW]
  · refine awp_skip ?_
    all_goals refine awp_seq (awp_region (id := 4) ?_)
    all_goals refine awpOps_cons (op_ldm ty29_WrldS rfl rfl rfl) ?_
    all_goals refine awpOps_cons (op_stm ty29_WrldS rfl rfl rfl) ?_
    all_goals refine awpOps_nil ?_
    refine awp_ret ?_
    repeat first | refine rt_seq ?_ | refine rt_block ?_
    refine ⟨_, _, res1C (ol := [(1, .arr ns)]) ty29_WrldS rfl rfl (fun o ho => ?_) (olk rfl obOkNs oln) (hS_sub rfl), ?_, rfl⟩
    · have : o = 1 := by simpa using (show o ∈ [1] from ho)
      subst this; rfl
    · show AV.v (sW w) = _
      cases ok with
      | false => rfl
      | true =>
        have h2 : ¬ w.log.length < 80 := by simpa using h
        simp [sendF, h2]
        rfl
end Go.Proofs.YtmdhfalfppkpeaaGreat

/- The reference: room for votes. -/
set_option linter.unusedVariables false
set_option linter.unusedSimpArgs false
namespace Go.Proofs.YtmdhfalfppkpeaaGreat
open Go Go.Wt
theorem l21Room_ct (w : Wrld) (ns : List NodS) : CtO Tryz.prog 130 [.v (fW w)] [(1, .arr ns)] (.v (decide (w.log.length < 80))) [(1, .arr ns)] := by
  unfold fW
  refine Ct.intro Tryz.func130 rfl rfl ?_
  all_goals refine awp_seq (awp_region (id := 0) ?_)
  all_goals refine awpOps_cons (op_box (o := 5) ty29_WrldS rfl (Conv.of rfl) rfl rfl) ?_
  all_goals refine awpOps_cons (op_as rfl (Conv.of rfl) rfl) ?_
  all_goals refine awpOps_nil ?_
  all_goals refine awp_seq (awp_region (id := 1) ?_)
  all_goals refine awpOps_cons (op_fab f29_2_WrldS rfl rfl) ?_
  all_goals refine awpOps_cons (op_ldl ty27_OListVote rfl rfl rfl) ?_
  all_goals refine awpOps_cons (op_len sl27 rfl rfl) ?_
  all_goals refine awpOps_cons (op_lss rfl rfl rfl) ?_
  all_goals refine awpOps_cons (op_as rfl (Conv.of rfl) rfl) ?_
  all_goals refine awpOps_nil ?_
  refine awp_ret ?_
  repeat first | refine rt_seq ?_ | refine rt_block ?_
  refine finO1 [(1, .arr ns)] (.v rfl (Conv.of rfl)) (fun o ho => by cases ho) (olk rfl obOkNs oln) (hS_keys rfl) ?_
  show AV.v _ = AV.v _
  congr 1
  rw [decide_eq_decide]
  show (w.log.length : Int) < 80 ↔ _
  omega
end Go.Proofs.YtmdhfalfppkpeaaGreat

/- The reference: a new world. -/
set_option linter.unusedVariables false
set_option linter.unusedSimpArgs false
namespace Go.Proofs.YtmdhfalfppkpeaaGreat
open Go Go.Wt
def newC (i : Int) : NodC := ⟨i, 0, 0, ⟨[]⟩⟩
theorem sWorldNew_ct (bad : Int) (hb : within bad 0 4 = true) : Ct Tryz.prog 57 [.v bad] noObj (fun r1 h1 => r1 = .tup [.v (sW (newW bad)), .v true] ∧ h1 = obs [(1, .arr ([newC 1, newC 2, newC 3, newC 4] : List NodC))]) := by
  refine Ct.intro Tryz.func57 rfl rfl ?_
  all_goals refine awp_seq (awp_region (id := 0) ?_)
  all_goals refine awpOps_cons (op_alloc (o := 5) z29_WrldS rfl rfl) ?_
  all_goals refine awpOps_cons (op_as rfl (Conv.of rfl) rfl) ?_
  all_goals refine awpOps_nil ?_
  all_goals refine awp_seq (awp_seq (awp_region (id := 1) ?_))
  all_goals refine awpOps_cons (op_mv rfl (Conv.of rfl) rfl) ?_
  all_goals refine awpOps_cons (op_call fb80 (.cons rfl (Conv.of rfl) (.cons rfl (Conv.of rfl) (.cons rfl (Conv.of rfl) (.nil _)))) (l6In_ct _ _ _) (argOk rfl rfl (argOk rfl rfl (argOk rfl rfl argOk0))) rfl rfl) ?_
  all_goals refine awpOps_cons (op_not rfl rfl) ?_
  all_goals refine awpOps_nil ?_
  refine awp_cond rfl (fun h => absurd (not_t h) (by rw [hb]; decide)) (fun h => ?_)
  refine awp_skip ?_
  all_goals refine awp_seq (awp_region (id := 3) ?_)
  all_goals refine awpOps_cons (op_mv rfl (Conv.of rfl) rfl) ?_
  all_goals refine awpOps_cons (op_bsc sl27 z48 (.nil _) rfl (by decide) rfl) ?_
  all_goals refine awpOps_cons (op_build (.cons f29_3_WrldS rfl (Conv.of rfl) (.cons f29_2_WrldS rfl (Conv.co) (.nil _))) z29_WrldS rfl pl29 rfl) ?_
  all_goals refine awpOps_cons (op_alloc (o := 0) z29_WrldS rfl rfl) ?_
  all_goals refine awpOps_cons (op_stm ty29_WrldS rfl rfl rfl) ?_
  all_goals refine awpOps_nil ?_
  all_goals refine awp_seq (awp_seq (awp_region (id := 4) ?_))
  all_goals refine awpOps_cons (op_as rfl (Conv.of rfl) rfl) ?_
  all_goals refine awpOps_nil ?_
  refine awp_block ?_
  refine awp_loop' (fun n s => (n = 4 ∧ s = mkSt 31 [(2, .box 5 (IsLens.whole WrldS)), (4, .box 0 (IsLens.whole WrldS)), (5, .v (1 : Int))] [(0, .cell (WrldS.mk 0 .nil ⟨[], true⟩ bad)), (5, .cell WrldS.zero)]) ∨ (n = 3 ∧ s = mkSt 31 [(2, .box 5 (IsLens.whole WrldS)), (4, .box 0 (IsLens.whole WrldS)), (5, .v (2 : Int))] [(0, .cell (WrldS.mk 0 (.ref 11) ⟨[], true⟩ bad)), (5, .cell WrldS.zero), (11, .arr ([newC 1] : List NodC))]) ∨ (n = 2 ∧ s = mkSt 31 [(2, .box 5 (IsLens.whole WrldS)), (4, .box 0 (IsLens.whole WrldS)), (5, .v (3 : Int))] [(0, .cell (WrldS.mk 0 (.ref 12) ⟨[], true⟩ bad)), (5, .cell WrldS.zero), (12, .arr ([newC 1, newC 2] : List NodC))]) ∨ (n = 1 ∧ s = mkSt 31 [(2, .box 5 (IsLens.whole WrldS)), (4, .box 0 (IsLens.whole WrldS)), (5, .v (4 : Int))] [(0, .cell (WrldS.mk 0 (.ref 13) ⟨[], true⟩ bad)), (5, .cell WrldS.zero), (13, .arr ([newC 1, newC 2, newC 3] : List NodC))]) ∨ (n = 0 ∧ s = mkSt 31 [(2, .box 5 (IsLens.whole WrldS)), (4, .box 0 (IsLens.whole WrldS)), (5, .v (5 : Int))] [(0, .cell (WrldS.mk 0 (.ref 1) ⟨[], true⟩ bad)), (5, .cell WrldS.zero), (1, .arr ([newC 1, newC 2, newC 3, newC 4] : List NodC))])) 4 (.inl ⟨rfl, rfl⟩) (Le.mk rfl (tlb rfl rfl rfl (tlb rfl rfl rfl (tle rfl (rfl) rfl tln))) (olk rfl (by exact obOkS0) (olk rfl (by exact obOkS0) oln)) noS) ?_
  rintro n s (⟨rfl, rfl⟩|⟨rfl, rfl⟩|⟨rfl, rfl⟩|⟨rfl, rfl⟩|⟨rfl, rfl⟩)
  · all_goals refine awp_seq (awp_seq (awp_region (id := 5) ?_))
    all_goals refine awpOps_cons (op_mv rfl (Conv.of rfl) rfl) ?_
    all_goals refine awpOps_cons (op_leq rfl rfl rfl) ?_
    all_goals refine awpOps_nil ?_
    refine awp_cond rfl (fun h => ?_) (fun h => absurd h (by decide))
    refine awp_skip ?_
    refine awp_seq (awp_block ?_)
    all_goals refine awp_seq (awp_region (id := 7) ?_)
    all_goals refine awpOps_cons (op_mv rfl (Conv.of rfl) rfl) ?_
    all_goals refine awpOps_cons (op_call fb116 (.cons rfl (Conv.of rfl) (.nil _)) (sNodeNew_ct 1 rfl) (argOk rfl rfl argOk0) rfl rfl) ?_
    all_goals refine awpOps_cons (op_mv rfl (Conv.of rfl) rfl) ?_
    all_goals refine awpOps_cons (op_ext rfl rfl rfl) ?_
    all_goals refine awpOps_cons (op_ext rfl rfl rfl) ?_
    all_goals refine awpOps_cons (op_alloc (o := 6) z41_NodC rfl rfl) ?_
    all_goals refine awpOps_cons (op_st ty41_NodC rfl rfl (Conv.of rfl) rfl) ?_
    all_goals refine awpOps_cons (op_as rfl (Conv.of rfl) rfl) ?_
    all_goals refine awpOps_nil ?_
    all_goals refine awp_region (id := 8) ?_
    all_goals refine awpOps_cons (op_fab f29_1_WrldS rfl rfl) ?_
    all_goals refine awpOps_cons (op_ld ty26_NRef rfl rfl rfl) ?_
    all_goals refine awpOps_cons (op_ld ty41_NodC rfl rfl rfl) ?_
    all_goals refine awpOps_cons (op_bsl sl26_NodC z41_NodC (.cons rfl (Conv.of rfl) (.nil _)) rfl (by decide) rfl) ?_
    all_goals refine awpOps_cons (op_apN (o' := 11) sl26_NodC z41_NodC ul26 rfl rfl rfl (by simp) (by simp) (by simp) rfl) ?_
    all_goals refine awpOps_cons (op_fab f29_1_WrldS rfl rfl) ?_
    all_goals refine awpOps_cons (op_st ty26_NRef rfl rfl (Conv.of rfl) rfl) ?_
    all_goals refine awpOps_nil ?_
    all_goals refine awp_region (id := 6) ?_
    all_goals refine awpOps_cons (op_mv rfl (Conv.of rfl) rfl) ?_
    all_goals refine awpOps_cons (op_add rfl rfl rfl (by omega)) ?_
    all_goals refine awpOps_cons (op_as rfl (Conv.of rfl) rfl) ?_
    all_goals refine awpOps_nil ?_
    repeat first | refine nx_seq ?_ | refine nx_block ?_
    exact ⟨3, _, by decide, .inr (.inl ⟨rfl, rfl⟩), Le.mk rfl (tlb rfl rfl rfl (tlb rfl rfl rfl (tle rfl (rfl) rfl tln))) (olk rfl (by exact obOkS rfl) (olk rfl (by exact obOkS0) (olk rfl (by exact obOk_arr) oln))) noS⟩
  · all_goals refine awp_seq (awp_seq (awp_region (id := 5) ?_))
    all_goals refine awpOps_cons (op_mv rfl (Conv.of rfl) rfl) ?_
    all_goals refine awpOps_cons (op_leq rfl rfl rfl) ?_
    all_goals refine awpOps_nil ?_
    refine awp_cond rfl (fun h => ?_) (fun h => absurd h (by decide))
    refine awp_skip ?_
    refine awp_seq (awp_block ?_)
    all_goals refine awp_seq (awp_region (id := 7) ?_)
    all_goals refine awpOps_cons (op_mv rfl (Conv.of rfl) rfl) ?_
    all_goals refine awpOps_cons (op_call fb116 (.cons rfl (Conv.of rfl) (.nil _)) (sNodeNew_ct 2 rfl) (argOk rfl rfl argOk0) rfl rfl) ?_
    all_goals refine awpOps_cons (op_mv rfl (Conv.of rfl) rfl) ?_
    all_goals refine awpOps_cons (op_ext rfl rfl rfl) ?_
    all_goals refine awpOps_cons (op_ext rfl rfl rfl) ?_
    all_goals refine awpOps_cons (op_alloc (o := 6) z41_NodC rfl rfl) ?_
    all_goals refine awpOps_cons (op_st ty41_NodC rfl rfl (Conv.of rfl) rfl) ?_
    all_goals refine awpOps_cons (op_as rfl (Conv.of rfl) rfl) ?_
    all_goals refine awpOps_nil ?_
    all_goals refine awp_region (id := 8) ?_
    all_goals refine awpOps_cons (op_fab f29_1_WrldS rfl rfl) ?_
    all_goals refine awpOps_cons (op_ld ty26_NRef rfl rfl rfl) ?_
    all_goals refine awpOps_cons (op_ld ty41_NodC rfl rfl rfl) ?_
    all_goals refine awpOps_cons (op_bsl sl26_NodC z41_NodC (.cons rfl (Conv.of rfl) (.nil _)) rfl (by decide) rfl) ?_
    all_goals refine awpOps_cons (op_apA (o' := 12) sl26_NodC z41_NodC ul26 rfl rfl rfl rfl (by simp) (by simp) (by simp) rfl) ?_
    all_goals refine awpOps_cons (op_fab f29_1_WrldS rfl rfl) ?_
    all_goals refine awpOps_cons (op_st ty26_NRef rfl rfl (Conv.of rfl) rfl) ?_
    all_goals refine awpOps_nil ?_
    all_goals refine awp_region (id := 6) ?_
    all_goals refine awpOps_cons (op_mv rfl (Conv.of rfl) rfl) ?_
    all_goals refine awpOps_cons (op_add rfl rfl rfl (by omega)) ?_
    all_goals refine awpOps_cons (op_as rfl (Conv.of rfl) rfl) ?_
    all_goals refine awpOps_nil ?_
    repeat first | refine nx_seq ?_ | refine nx_block ?_
    exact ⟨2, _, by decide, .inr (.inr (.inl ⟨rfl, rfl⟩)), Le.mk rfl (tlb rfl rfl rfl (tlb rfl rfl rfl (tle rfl (rfl) rfl tln))) (olk rfl (by exact obOkS rfl) (olk rfl (by exact obOkS0) (olk rfl (by exact obOk_arr) oln))) noS⟩
  · all_goals refine awp_seq (awp_seq (awp_region (id := 5) ?_))
    all_goals refine awpOps_cons (op_mv rfl (Conv.of rfl) rfl) ?_
    all_goals refine awpOps_cons (op_leq rfl rfl rfl) ?_
    all_goals refine awpOps_nil ?_
    refine awp_cond rfl (fun h => ?_) (fun h => absurd h (by decide))
    refine awp_skip ?_
    refine awp_seq (awp_block ?_)
    all_goals refine awp_seq (awp_region (id := 7) ?_)
    all_goals refine awpOps_cons (op_mv rfl (Conv.of rfl) rfl) ?_
    all_goals refine awpOps_cons (op_call fb116 (.cons rfl (Conv.of rfl) (.nil _)) (sNodeNew_ct 3 rfl) (argOk rfl rfl argOk0) rfl rfl) ?_
    all_goals refine awpOps_cons (op_mv rfl (Conv.of rfl) rfl) ?_
    all_goals refine awpOps_cons (op_ext rfl rfl rfl) ?_
    all_goals refine awpOps_cons (op_ext rfl rfl rfl) ?_
    all_goals refine awpOps_cons (op_alloc (o := 6) z41_NodC rfl rfl) ?_
    all_goals refine awpOps_cons (op_st ty41_NodC rfl rfl (Conv.of rfl) rfl) ?_
    all_goals refine awpOps_cons (op_as rfl (Conv.of rfl) rfl) ?_
    all_goals refine awpOps_nil ?_
    all_goals refine awp_region (id := 8) ?_
    all_goals refine awpOps_cons (op_fab f29_1_WrldS rfl rfl) ?_
    all_goals refine awpOps_cons (op_ld ty26_NRef rfl rfl rfl) ?_
    all_goals refine awpOps_cons (op_ld ty41_NodC rfl rfl rfl) ?_
    all_goals refine awpOps_cons (op_bsl sl26_NodC z41_NodC (.cons rfl (Conv.of rfl) (.nil _)) rfl (by decide) rfl) ?_
    all_goals refine awpOps_cons (op_apA (o' := 13) sl26_NodC z41_NodC ul26 rfl rfl rfl rfl (by simp) (by simp) (by simp) rfl) ?_
    all_goals refine awpOps_cons (op_fab f29_1_WrldS rfl rfl) ?_
    all_goals refine awpOps_cons (op_st ty26_NRef rfl rfl (Conv.of rfl) rfl) ?_
    all_goals refine awpOps_nil ?_
    all_goals refine awp_region (id := 6) ?_
    all_goals refine awpOps_cons (op_mv rfl (Conv.of rfl) rfl) ?_
    all_goals refine awpOps_cons (op_add rfl rfl rfl (by omega)) ?_
    all_goals refine awpOps_cons (op_as rfl (Conv.of rfl) rfl) ?_
    all_goals refine awpOps_nil ?_
    repeat first | refine nx_seq ?_ | refine nx_block ?_
    exact ⟨1, _, by decide, .inr (.inr (.inr (.inl ⟨rfl, rfl⟩))), Le.mk rfl (tlb rfl rfl rfl (tlb rfl rfl rfl (tle rfl (rfl) rfl tln))) (olk rfl (by exact obOkS rfl) (olk rfl (by exact obOkS0) (olk rfl (by exact obOk_arr) oln))) noS⟩
  · all_goals refine awp_seq (awp_seq (awp_region (id := 5) ?_))
    all_goals refine awpOps_cons (op_mv rfl (Conv.of rfl) rfl) ?_
    all_goals refine awpOps_cons (op_leq rfl rfl rfl) ?_
    all_goals refine awpOps_nil ?_
    refine awp_cond rfl (fun h => ?_) (fun h => absurd h (by decide))
    refine awp_skip ?_
    refine awp_seq (awp_block ?_)
    all_goals refine awp_seq (awp_region (id := 7) ?_)
    all_goals refine awpOps_cons (op_mv rfl (Conv.of rfl) rfl) ?_
    all_goals refine awpOps_cons (op_call fb116 (.cons rfl (Conv.of rfl) (.nil _)) (sNodeNew_ct 4 rfl) (argOk rfl rfl argOk0) rfl rfl) ?_
    all_goals refine awpOps_cons (op_mv rfl (Conv.of rfl) rfl) ?_
    all_goals refine awpOps_cons (op_ext rfl rfl rfl) ?_
    all_goals refine awpOps_cons (op_ext rfl rfl rfl) ?_
    all_goals refine awpOps_cons (op_alloc (o := 6) z41_NodC rfl rfl) ?_
    all_goals refine awpOps_cons (op_st ty41_NodC rfl rfl (Conv.of rfl) rfl) ?_
    all_goals refine awpOps_cons (op_as rfl (Conv.of rfl) rfl) ?_
    all_goals refine awpOps_nil ?_
    all_goals refine awp_region (id := 8) ?_
    all_goals refine awpOps_cons (op_fab f29_1_WrldS rfl rfl) ?_
    all_goals refine awpOps_cons (op_ld ty26_NRef rfl rfl rfl) ?_
    all_goals refine awpOps_cons (op_ld ty41_NodC rfl rfl rfl) ?_
    all_goals refine awpOps_cons (op_bsl sl26_NodC z41_NodC (.cons rfl (Conv.of rfl) (.nil _)) rfl (by decide) rfl) ?_
    all_goals refine awpOps_cons (op_apA (o' := 1) sl26_NodC z41_NodC ul26 rfl rfl rfl rfl (by simp) (by simp) (by simp) rfl) ?_
    all_goals refine awpOps_cons (op_fab f29_1_WrldS rfl rfl) ?_
    all_goals refine awpOps_cons (op_st ty26_NRef rfl rfl (Conv.of rfl) rfl) ?_
    all_goals refine awpOps_nil ?_
    all_goals refine awp_region (id := 6) ?_
    all_goals refine awpOps_cons (op_mv rfl (Conv.of rfl) rfl) ?_
    all_goals refine awpOps_cons (op_add rfl rfl rfl (by omega)) ?_
    all_goals refine awpOps_cons (op_as rfl (Conv.of rfl) rfl) ?_
    all_goals refine awpOps_nil ?_
    repeat first | refine nx_seq ?_ | refine nx_block ?_
    exact ⟨0, _, by decide, .inr (.inr (.inr (.inr (⟨rfl, rfl⟩)))), Le.mk rfl (tlb rfl rfl rfl (tlb rfl rfl rfl (tle rfl (rfl) rfl tln))) (olk rfl (by exact obOkS rfl) (olk rfl (by exact obOkS0) (olk rfl (by exact obOk_arr) oln))) noS⟩
  · all_goals refine awp_seq (awp_seq (awp_region (id := 5) ?_))
    all_goals refine awpOps_cons (op_mv rfl (Conv.of rfl) rfl) ?_
    all_goals refine awpOps_cons (op_leq rfl rfl rfl) ?_
    all_goals refine awpOps_nil ?_
    refine awp_cond rfl (fun h => absurd h (by decide)) (fun h => ?_)
    refine awp_exit ?_
    repeat refine ex_seq ?_
    refine ex_block ?_
    all_goals refine awp_seq (awp_region (id := 9) ?_)
    all_goals refine awpOps_cons (op_ldm ty29_WrldS rfl rfl rfl) ?_
    all_goals refine awpOps_cons (op_stm ty29_WrldS rfl rfl rfl) ?_
    all_goals refine awpOps_cons (op_as rfl (Conv.of rfl) rfl) ?_
    all_goals refine awpOps_nil ?_
    refine awp_ret ?_
    repeat first | refine rt_seq ?_ | refine rt_block ?_
    refine ⟨_, _, resNM (ol := [(1, .arr ([newC 1, newC 2, newC 3, newC 4] : List NodC))]) (.cell ty29_WrldS rfl rfl (.keep (.v rfl (Conv.of rfl)) (.nil _))) rfl (fun o ho => ?_) (olk rfl obOk_arr oln) noS, rfl, rfl⟩
    have : o = 1 := by simpa using (show o ∈ [1] from ho)
    subst this; rfl
end Go.Proofs.YtmdhfalfppkpeaaGreat

/- The reference: a node hears. -/
set_option linter.unusedVariables false
set_option linter.unusedSimpArgs false
namespace Go.Proofs.YtmdhfalfppkpeaaGreat
open Go Go.Wt
set_option maxHeartbeats 2000000 in
theorem l12Try_ct (n : Nod) (hn : Gd n.seen) (he : 0 ≤ n.epoch ∧ n.epoch ≤ 30) : CtP Tryz.prog 149 [.v (sN n)] (res3S (tryAllS n)) := by
  have htip := hn.tipS
  have hlen := hn.len
  refine Ct.intro Tryz.func149 rfl rfl ?_
  all_goals refine awp_seq (awp_region (id := 0) ?_)
  all_goals refine awpOps_cons (op_boxm (o := 0) ty41_NodS rfl rfl rfl rfl) ?_
  all_goals refine awpOps_cons (op_alloc (o := 1) z41_NodS rfl rfl) ?_
  all_goals refine awpOps_cons (op_alloc (o := 2) z48 rfl rfl) ?_
  all_goals refine awpOps_cons (op_as rfl (Conv.of rfl) rfl) ?_
  all_goals refine awpOps_nil ?_
  refine awp_seq (awp_seq_to (s' := mkSt 51 [(1, .box 0 (IsLens.whole NodS)), (2, .box 1 (IsLens.whole NodS)), (3, .box 2 (IsLens.whole Vote)), (4, .v false), (16, .v (decide (n.epoch = 0) || decide (n.voted = n.epoch)))] [(0, .cell (sN n)), (1, .cell NodS.zero), (2, .cell Vote.zero)]) ?_ ?_)
  · all_goals refine awp_region (id := 1) ?_
    all_goals refine awpOps_cons (op_fab f41_1_NodS rfl rfl) ?_
    all_goals refine awpOps_cons (op_ld ty3 rfl rfl rfl) ?_
    all_goals refine awpOps_cons (op_eql rfl rfl rfl) ?_
    all_goals refine awpOps_cons (op_mv rfl (Conv.of rfl) rfl) ?_
    all_goals refine g_split (t := 10) rfl (fun h => ?_) (fun h => ?_)
    all_goals first | refine awpOps_cons (g_off rfl rfl rfl rfl rfl) ?_ | refine awpOps_cons (g_on rfl rfl rfl (op_fab f41_2_NodS rfl rfl)) ?_
    all_goals first | refine awpOps_cons (g_off rfl rfl rfl rfl rfl) ?_ | refine awpOps_cons (g_on rfl rfl rfl (op_ld ty3 rfl rfl rfl)) ?_
    all_goals first | refine awpOps_cons (g_off rfl rfl rfl rfl rfl) ?_ | refine awpOps_cons (g_on rfl rfl rfl (op_fab f41_1_NodS rfl rfl)) ?_
    all_goals first | refine awpOps_cons (g_off rfl rfl rfl rfl rfl) ?_ | refine awpOps_cons (g_on rfl rfl rfl (op_ld ty3 rfl rfl rfl)) ?_
    all_goals first | refine awpOps_cons (g_off rfl rfl rfl rfl rfl) ?_ | refine awpOps_cons (g_on rfl rfl rfl (op_eql rfl rfl rfl)) ?_
    all_goals refine awpOps_cons (op_pick rfl rfl rfl rfl) ?_
    all_goals refine awpOps_nil ?_
    all_goals exact Le.mk rfl (tlb rfl rfl rfl (tlb rfl rfl rfl (tlb rfl rfl rfl (tle rfl (rfl) rfl (tle rfl (by (clear htip; simp_all [sN]; try (rw [Bool.eq_iff_iff]; simp))) rfl tln))))) (olk rfl (by exact obOkN) (olk rfl (by exact obOkN) (olk rfl (by exact obOk_cell) oln))) noS
  refine awp_cond rfl (fun h => ?_) (fun h => ?_)
  · all_goals refine awp_seq (awp_region (id := 2) ?_)
    all_goals refine awpOps_cons (op_ldm ty41_NodS rfl rfl rfl) ?_
    all_goals refine awpOps_cons (op_build (.nil _) z48 rfl pl48 rfl) ?_
    all_goals refine awpOps_cons (op_stm ty41_NodS rfl rfl rfl) ?_
    all_goals refine awpOps_cons (op_st ty48 rfl rfl (Conv.of rfl) rfl) ?_
    all_goals refine awpOps_cons (op_as rfl (Conv.of rfl) rfl) ?_
    all_goals refine awpOps_nil ?_
    refine awp_ret ?_
    repeat first | refine rt_seq ?_ | refine rt_block ?_
    refine ⟨_, _, resNM (ol := []) (.cell ty41_NodS rfl rfl (.keep (.rc ty48 rfl rfl) (.keep (.v rfl (Conv.of rfl)) (.nil _)))) rfl (fun o ho => absurd (show o ∈ ([] : List Nat) from ho) (by simp)) oln noS, ?_, rfl⟩
    rw [tryAllS, h, if_pos rfl]; rfl
  · have hres : tryAllS n = tryS n (tipOfS n.seen).length n.seen := by rw [tryAllS, h]; rfl
    refine awp_skip ?_
    all_goals refine awp_seq (awp_region (id := 3) ?_)
    all_goals refine awpOps_cons (op_fab f41_3_NodS rfl rfl) ?_
    all_goals refine awpOps_cons (op_ldl ty27_OListVote rfl rfl rfl) ?_
    all_goals refine awpOps_cons (op_call fb101 (.cons rfl (Conv.of rfl) (.nil _)) (l11Tip_ct _ hn.l hn.v) (argOk rfl rfl argOk0) rfl rfl) ?_
    all_goals refine awpOps_cons (op_len sl34 rfl rfl) ?_
    all_goals refine awpOps_cons (op_as rfl (Conv.of rfl) rfl) ?_
    all_goals refine awpOps_nil ?_
    all_goals refine awp_seq (awp_seq (awp_region (id := 4) ?_))
    all_goals refine awpOps_cons (op_as rfl (Conv.of rfl) rfl) ?_
    all_goals refine awpOps_nil ?_
    refine awp_block ?_
    refine awp_loop' (fun n_ s => ∃ (k : Nat), ∃ (hk : n_ + k = n.seen.length), ∃ (hall : tryS n (tipOfS n.seen).length (n.seen.drop k) = tryAllS n), s = mkSt 51 [(1, .box 0 (IsLens.whole NodS)), (2, .box 1 (IsLens.whole NodS)), (3, .box 2 (IsLens.whole Vote)), (5, .v ((tipOfS n.seen).length : Int)), (6, .v (k : Int))] [(0, .cell (sN n)), (1, .cell NodS.zero), (2, .cell Vote.zero)]) (n.seen.length) ⟨0, by omega, by rw [hres]; rfl, rfl⟩ (Le.mk rfl (tlb rfl rfl rfl (tlb rfl rfl rfl (tlb rfl rfl rfl (tle rfl (rfl) rfl (tle rfl (rfl) rfl tln))))) (olk rfl (by exact obOkN) (olk rfl (by exact obOkN) (olk rfl (by exact obOk_cell) oln))) noS) ?_
    rintro n_ s ⟨k, hk, hall, rfl⟩
    all_goals refine awp_seq (awp_seq (awp_region (id := 5) ?_))
    all_goals refine awpOps_cons (op_mv rfl (Conv.of rfl) rfl) ?_
    all_goals refine awpOps_cons (op_fab f41_3_NodS rfl rfl) ?_
    all_goals refine awpOps_cons (op_ldl ty27_OListVote rfl rfl rfl) ?_
    all_goals refine awpOps_cons (op_len sl27 rfl rfl) ?_
    all_goals refine awpOps_cons (op_lss rfl rfl rfl) ?_
    all_goals refine awpOps_nil ?_
    refine awp_cond rfl (fun h2 => ?_) (fun h2 => ?_)
    · have hlt : k < n.seen.length := by simpa [sN] using h2
      have hx : n.seen[k]? = some n.seen[k] := List.getElem?_eq_getElem hlt
      have hx' : (sN n).seen.l[(k : Int).toNat]? = some n.seen[k] := hx
      have huo := hn.ok _ (List.getElem_mem hlt)
      have hup := voteOk_pos huo
      have hstep := tryS_drop n (tipOfS n.seen).length hx
      refine awp_skip ?_
      refine awp_seq (awp_block ?_)
      all_goals refine awp_seq (dr_start (id := 7) ?_)
      all_goals refine dr_cons (op_ldd ty41_NodS rfl rfl rfl) ?_
      all_goals refine dr_cons (op_fab f41_3_NodS rfl rfl) ?_
      all_goals refine dr_cons (op_ldl ty27_OListVote rfl rfl rfl) ?_
      all_goals refine dr_cons (op_mv rfl (Conv.of rfl) rfl) ?_
      all_goals refine dr_cons (op_ix sl27 rfl rfl rfl (by omega) hx') ?_
      all_goals refine dr_cons (op_ldr ty48 rfl rfl) ?_
      all_goals refine dr_cons (op_mv rfl (Conv.of rfl) rfl) ?_
      all_goals refine dr_cons (op_call fb172 (.cons rfl (Conv.of rfl) (.cons rfl (Conv.of rfl) (.cons rfl (Conv.of rfl) (.nil _)))) (l12Fits_ct n n.seen[k] (tipOfS n.seen).length hup he) (argOk rfl rfl (argOk rfl rfl (argOk rfl rfl argOk0))) rfl rfl) ?_
      all_goals refine dr_nil mixed rfl ?_
      refine awp_cond rfl (fun h3 => ?_) (fun h3 => ?_)
      · refine awp_seq ?_
        refine awp_park (s := 37) (o := 0) (tb := 1) rfl rfl rfl (fun hv => ?_)
        refine dg_start 8 ?_
        all_goals refine dg_cons (op_ld ty41_NodH rfl rfl rfl) ?_
        all_goals refine dg_cons (op_fab f41_3_NodH rfl rfl) ?_
        all_goals refine dg_cons (op_ld ty27_HListVote rfl rfl rfl) ?_
        all_goals refine dg_cons (op_mv rfl (Conv.of rfl) rfl) ?_
        all_goals refine dg_cons (op_ix sl27 rfl rfl rfl (by omega) hx') ?_
        all_goals refine dg_cons (op_far f48_1 rfl rfl) ?_
        all_goals refine dg_cons (op_ldr ty34 rfl rfl) ?_
        refine dg_cons (op_callP (r := 37) rfl fb164 rfl rfl (.cons rfl (Conv.of rfl) (.nil _)) (l12Vote_ct n _ hn (voteOk_len huo)) (argOk rfl rfl argOk0) rfl rfl) ?_
        refine dg_bar (fun hv' => _) mixed rfl rfl (parkT (t := 45) (r := 37) rfl rfl rfl) (fun hv' => ?_)
        all_goals refine dg_cons (op_ext rfl rfl rfl) ?_
        all_goals refine dg_cons (op_ext rfl rfl rfl) ?_
        all_goals refine dg_cons (op_ext rfl rfl rfl) ?_
        refine dg_cons (op_stP (s := 46) (r := 37) rfl ty41_NodS rfl rfl rfl rfl) ?_
        all_goals refine dg_cons (op_st ty48 rfl rfl (Conv.of rfl) rfl) ?_
        all_goals refine dg_cons (op_as rfl (Conv.of rfl) rfl) ?_
        refine dg_nil rfl ?_
        refine awp_ret ?_
        repeat first | refine rt_seq ?_ | refine rt_block ?_
        refine ⟨_, _, resNM (ol := []) (.cell ty41_NodS rfl rfl (.keep (.rc ty48 rfl rfl) (.keep (.v rfl (Conv.of rfl)) (.nil _)))) rfl (fun o ho => absurd (show o ∈ ([] : List Nat) from ho) (by simp)) oln noS, ?_, rfl⟩
        rw [← hall, hstep, if_pos h3]; rfl
      · refine awp_skip ?_
        all_goals refine awp_region (id := 6) ?_
        all_goals refine awpOps_cons (op_mv rfl (Conv.of rfl) rfl) ?_
        all_goals refine awpOps_cons (op_add rfl rfl rfl (by omega)) ?_
        all_goals refine awpOps_cons (op_as rfl (Conv.of rfl) rfl) ?_
        all_goals refine awpOps_nil ?_
        repeat first | refine nx_seq ?_ | refine nx_block ?_
        exact ⟨n_ - 1, _, by omega, ⟨k + 1, by omega, by rw [← hall, hstep, if_neg (by rw [h3]; decide)], rfl⟩, Le.mk rfl (tlb rfl rfl rfl (tlb rfl rfl rfl (tlb rfl rfl rfl (tle rfl (rfl) rfl (tle rfl (rfl) rfl tln))))) (olk rfl (by exact obOkN) (olk rfl (by exact obOkN) (olk rfl (by exact obOk_cell) oln))) noS⟩
    · refine awp_exit ?_
      repeat refine ex_seq ?_
      refine ex_block ?_
      have hk : n.seen.length ≤ k := by simpa [sN] using h2
      all_goals refine awp_seq (awp_region (id := 9) ?_)
      all_goals refine awpOps_cons (op_ldm ty41_NodS rfl rfl rfl) ?_
      all_goals refine awpOps_cons (op_build (.nil _) z48 rfl pl48 rfl) ?_
      all_goals refine awpOps_cons (op_stm ty41_NodS rfl rfl rfl) ?_
      all_goals refine awpOps_cons (op_st ty48 rfl rfl (Conv.of rfl) rfl) ?_
      all_goals refine awpOps_cons (op_as rfl (Conv.of rfl) rfl) ?_
      all_goals refine awpOps_nil ?_
      refine awp_ret ?_
      repeat first | refine rt_seq ?_ | refine rt_block ?_
      refine ⟨_, _, resNM (ol := []) (.cell ty41_NodS rfl rfl (.keep (.rc ty48 rfl rfl) (.keep (.v rfl (Conv.of rfl)) (.nil _)))) rfl (fun o ho => absurd (show o ∈ ([] : List Nat) from ho) (by simp)) oln noS, ?_, rfl⟩
      rw [← hall, drop_end hk]; rfl
theorem l12Hear_ct (n : Nod) (v : Vote) (hn : Gd n.seen) (he : 0 ≤ n.epoch ∧ n.epoch ≤ 30) (hv : v.chain.length ≤ 1000000) : CtP Tryz.prog 103 [.v (sN n), .v v] (res3S (hearS n v)) := by
  refine Ct.intro Tryz.func103 rfl rfl ?_
  all_goals refine awp_seq (awp_region (id := 0) ?_)
  all_goals refine awpOps_cons (op_boxm (o := 0) ty41_NodS rfl rfl rfl rfl) ?_
  all_goals refine awpOps_cons (op_box (o := 1) ty48 rfl (Conv.of rfl) rfl rfl) ?_
  all_goals refine awpOps_cons (op_alloc (o := 2) z41_NodS rfl rfl) ?_
  all_goals refine awpOps_cons (op_alloc (o := 3) z48 rfl rfl) ?_
  all_goals refine awpOps_cons (op_as rfl (Conv.of rfl) rfl) ?_
  all_goals refine awpOps_nil ?_
  refine awp_seq (awp_seq_to (s' := mkSt 41 [(2, .box 0 (IsLens.whole NodS)), (3, .box 1 (IsLens.whole Vote)), (4, .box 2 (IsLens.whole NodS)), (5, .box 3 (IsLens.whole Vote)), (6, .v false), (24, .v (!(voteOk v && !decide (v.by_ = n.id) && decide (n.seen.length < 80))))] [(0, .cell (sN n)), (1, .cell v), (2, .cell NodS.zero), (3, .cell Vote.zero)]) ?_ ?_)
  · all_goals refine awp_region (id := 1) ?_
    all_goals refine awpOps_cons (op_ld ty48 rfl rfl rfl) ?_
    all_goals refine awpOps_cons (op_call fb118 (.cons rfl (Conv.of rfl) (.nil _)) (l3Vote_ct _) (argOk rfl rfl argOk0) rfl rfl) ?_
    all_goals refine awpOps_cons (op_not rfl rfl) ?_
    all_goals refine awpOps_cons (op_mv rfl (Conv.of rfl) rfl) ?_
    all_goals refine g_split (t := 12) rfl (fun h => ?_) (fun h => ?_)
    all_goals first | refine awpOps_cons (g_off rfl rfl rfl rfl rfl) ?_ | refine awpOps_cons (g_on rfl rfl rfl (op_fab f48_0 rfl rfl)) ?_
    all_goals first | refine awpOps_cons (g_off rfl rfl rfl rfl rfl) ?_ | refine awpOps_cons (g_on rfl rfl rfl (op_ld ty3 rfl rfl rfl)) ?_
    all_goals first | refine awpOps_cons (g_off rfl rfl rfl rfl rfl) ?_ | refine awpOps_cons (g_on rfl rfl rfl (op_fab f41_0_NodS rfl rfl)) ?_
    all_goals first | refine awpOps_cons (g_off rfl rfl rfl rfl rfl) ?_ | refine awpOps_cons (g_on rfl rfl rfl (op_ld ty3 rfl rfl rfl)) ?_
    all_goals first | refine awpOps_cons (g_off rfl rfl rfl rfl rfl) ?_ | refine awpOps_cons (g_on rfl rfl rfl (op_eql rfl rfl rfl)) ?_
    all_goals refine awpOps_cons (op_pick rfl rfl rfl rfl) ?_
    all_goals refine awpOps_cons (op_mv rfl (Conv.of rfl) rfl) ?_
    all_goals first | refine g_lit (t := 19) (b := true) rfl ?_ | refine g_split (t := 19) rfl (fun h => ?_) (fun h => ?_)
    all_goals first | refine awpOps_cons (g_off rfl rfl rfl rfl rfl) ?_ | refine awpOps_cons (g_on rfl rfl rfl (op_fab f41_3_NodS rfl rfl)) ?_
    all_goals first | refine awpOps_cons (g_off rfl rfl rfl rfl rfl) ?_ | refine awpOps_cons (g_on rfl rfl rfl (op_ldl ty27_OListVote rfl rfl rfl)) ?_
    all_goals first | refine awpOps_cons (g_off rfl rfl rfl rfl rfl) ?_ | refine awpOps_cons (g_on rfl rfl rfl (op_len sl27 rfl rfl)) ?_
    all_goals first | refine awpOps_cons (g_off rfl rfl rfl rfl rfl) ?_ | refine awpOps_cons (g_on rfl rfl rfl (op_geq rfl rfl rfl)) ?_
    all_goals refine awpOps_cons (op_pick rfl rfl rfl rfl) ?_
    all_goals refine awpOps_nil ?_
    all_goals exact Le.mk rfl (tlb rfl rfl rfl (tlb rfl rfl rfl (tlb rfl rfl rfl (tlb rfl rfl rfl (tle rfl (rfl) rfl (tle rfl (by (simp_all [sN]; try (rw [Bool.eq_iff_iff]; simp; try omega); try (exact ⟨fun hh => by have := of_decide_eq_true hh; omega, fun hh => decide_eq_true (by omega)⟩))) rfl tln)))))) (olk rfl (by exact obOkN) (olk rfl (by exact obOk_cell) (olk rfl (by exact obOkN) (olk rfl (by exact obOk_cell) oln)))) noS
  refine awp_cond rfl (fun h => ?_) (fun h => ?_)
  · all_goals refine awp_seq (awp_region (id := 2) ?_)
    all_goals refine awpOps_cons (op_ldm ty41_NodS rfl rfl rfl) ?_
    all_goals refine awpOps_cons (op_build (.nil _) z48 rfl pl48 rfl) ?_
    all_goals refine awpOps_cons (op_stm ty41_NodS rfl rfl rfl) ?_
    all_goals refine awpOps_cons (op_st ty48 rfl rfl (Conv.of rfl) rfl) ?_
    all_goals refine awpOps_cons (op_as rfl (Conv.of rfl) rfl) ?_
    all_goals refine awpOps_nil ?_
    refine awp_ret ?_
    repeat first | refine rt_seq ?_ | refine rt_block ?_
    refine ⟨_, _, resNM (ol := []) (.cell ty41_NodS rfl rfl (.keep (.rc ty48 rfl rfl) (.keep (.v rfl (Conv.of rfl)) (.nil _)))) rfl (fun o ho => absurd (show o ∈ ([] : List Nat) from ho) (by simp)) oln noS, ?_, rfl⟩
    rw [hearS, not_t h]; rfl
  · have h0 := not_f h
    have h0' := h0
    simp only [Bool.and_eq_true] at h0'
    have hvo : voteOk v = true := h0'.1.1
    have hlen : n.seen.length < 80 := by simpa using h0'.2
    have hgd := seeF_gd hn hvo hlen
    have hep : (seeF n v).epoch = n.epoch := by unfold seeF; split <;> rfl
    refine awp_skip ?_
    all_goals refine awp_seq (awp_region (id := 3) ?_)
    all_goals refine awpOps_cons (op_fab f41_3_NodS rfl rfl) ?_
    all_goals refine awpOps_cons (op_ldm ty27_OListVote rfl rfl rfl) ?_
    all_goals refine awpOps_cons (op_ld ty48 rfl rfl rfl) ?_
    all_goals refine awpOps_cons (op_callM (s := 29) (ol := []) (ol' := []) (pre := []) fb148 (.nil _) rfl (.cons rfl (Conv.of rfl) (.nil _)) (l3Add_ct n.seen v hn.l' hv) ols0 oks0 oks0 rfl argO0 (argOk' rfl rfl argO0) (fun o ho => absurd (show o ∈ ([] : List Nat) from ho) (by simp)) (fun o ho => absurd (show o ∈ ([] : List Nat) from ho) (by simp)) rfl) ?_
    all_goals refine awpOps_cons (op_mvo rfl rfl rfl rfl) ?_
    all_goals refine awpOps_cons (op_extm rfl rfl rfl rfl) ?_
    all_goals refine awpOps_cons (op_ext rfl rfl rfl) ?_
    all_goals refine awpOps_cons (op_asl rfl rfl rfl rfl) ?_
    all_goals refine awpOps_cons (op_as rfl (Conv.of rfl) rfl) ?_
    all_goals refine awpOps_nil ?_
    refine awp_seq_to (s' := mkSt 41 [(2, .box 0 (IsLens.whole NodS)), (4, .box 2 (IsLens.whole NodS)), (5, .box 3 (IsLens.whole Vote))] [(0, .cell (sN (seeF n v))), (2, .cell NodS.zero), (3, .cell Vote.zero)]) ?_ ?_
    · all_goals refine awp_region (id := 4) ?_
      all_goals refine awpOps_cons (op_mvl rfl rfl rfl rfl) ?_
      all_goals refine awpOps_cons (op_fab f41_3_NodS rfl rfl) ?_
      all_goals refine awpOps_cons (op_stm ty27_OListVote rfl rfl rfl) ?_
      all_goals refine awpOps_nil ?_
      all_goals exact Le.mk rfl (tlb rfl rfl rfl (tlb rfl rfl rfl (tlb rfl rfl rfl tln))) (olk (by (by_cases hm : v ∈ n.seen <;> simp [seeF, sN, hm] <;> rfl)) (by exact obOkN) (olk rfl (by exact obOkN) (olk rfl (by exact obOk_cell) oln))) noS
    all_goals refine awp_seq (awp_region (id := 5) ?_)
    all_goals refine awpOps_cons (op_ldm ty41_NodS rfl rfl rfl) ?_
    all_goals refine awpOps_cons (op_callM (s := 36) (ol := []) (ol' := []) (pre := []) fb149 (.nil _) rfl (.nil _) (l12Try_ct (seeF n v) hgd (by rw [hep]; exact he)) ols0 oks0 oks0 rfl argO0 argO0 (fun o ho => absurd (show o ∈ ([] : List Nat) from ho) (by simp)) (fun o ho => absurd (show o ∈ ([] : List Nat) from ho) (by simp)) rfl) ?_
    all_goals refine awpOps_cons (op_extm rfl rfl rfl rfl) ?_
    all_goals refine awpOps_cons (op_ext rfl rfl rfl) ?_
    all_goals refine awpOps_cons (op_ext rfl rfl rfl) ?_
    all_goals refine awpOps_cons (op_stm ty41_NodS rfl rfl rfl) ?_
    all_goals refine awpOps_cons (op_st ty48 rfl rfl (Conv.of rfl) rfl) ?_
    all_goals refine awpOps_cons (op_as rfl (Conv.of rfl) rfl) ?_
    all_goals refine awpOps_nil ?_
    refine awp_ret ?_
    repeat first | refine rt_seq ?_ | refine rt_block ?_
    refine ⟨_, _, resNM (ol := []) (.cell ty41_NodS rfl rfl (.keep (.rc ty48 rfl rfl) (.keep (.v rfl (Conv.of rfl)) (.nil _)))) rfl (fun o ho => absurd (show o ∈ ([] : List Nat) from ho) (by simp)) oln noS, ?_, rfl⟩
    rw [hearS, h0, if_pos rfl]; rfl
end Go.Proofs.YtmdhfalfppkpeaaGreat

/- The reference: a node of a world proposes, or hears. -/
set_option linter.unusedVariables false
set_option linter.unusedSimpArgs false
namespace Go.Proofs.YtmdhfalfppkpeaaGreat
open Go Go.Wt
theorem l12Propose_w (n : Nod) (p : Pay) (h : nodeOk n = true) : CtP Tryz.prog 131 [.v (sN n), .v p] (res3S (proposeF n p)) := by
  obtain ⟨⟨h1, h2, h3, h4, h5⟩, h6⟩ := nodeOk_iff.1 h
  rw [← proposeS_eq p h5 h2]
  exact l12Propose_ct n p ⟨by omega, votesOk_mem h5⟩ h2
theorem l12Hear_w (n : Nod) (v : Vote) (h : nodeOk n = true) (hv : v.chain.length ≤ 1000000) : CtP Tryz.prog 103 [.v (sN n), .v v] (res3S (hearF n v)) := by
  obtain ⟨⟨h1, h2, h3, h4, h5⟩, h6⟩ := nodeOk_iff.1 h
  rw [← hearS_eq h5 h2]
  exact l12Hear_ct n v ⟨by omega, votesOk_mem h5⟩ h2 hv
abbrev so (w : Wrld) : List (Nat × Wt.Obj) := [(1, .arr (w.nodes.map sN))]
theorem sW_put (w : Wrld) (k : Nat) (x : Nod × Vote × Bool) : sW (if x.2.2 then sendF w x.2.1 else w) = sW (putF w k x) := by
  unfold putF
  cases x.2.2 with
  | false => rfl
  | true =>
    show sW (sendF w x.2.1) = sW (sendF _ x.2.1)
    unfold sendF
    simp only
    split <;> rfl
theorem put_nodes (w : Wrld) (k : Nat) (x : Nod × Vote × Bool) : (putF w k x).nodes = w.nodes.set k x.1 := by
  unfold putF
  split
  · unfold sendF; split <;> rfl
  · rfl
theorem set_sN (ns : List Nod) (k : Nat) (n : Nod) (y : NodS) : ((ns.map sN).set k y).set k (sN n) = (ns.set k n).map sN := by
  rw [List.set_set, List.map_set]
set_option maxHeartbeats 4000000 in
theorem l21Propose_ct (w : Wrld) (id : Int) (p : Pay) (hw : FineX w) : CtO Tryz.prog 78 [.v (sW w), .v id, .v p] (so w) (.v (sW (wproposeF w id p))) (so (wproposeF w id p)) := by
  have h4 := hw.four
  refine Ct.intro Tryz.func78 rfl rfl ?_
  all_goals refine awp_seq (awp_region (id := 0) ?_)
  all_goals refine awpOps_cons (op_boxm (o := 5) ty29_WrldS rfl rfl rfl rfl) ?_
  all_goals refine awpOps_cons (op_box (o := 6) ty58 rfl (Conv.of rfl) rfl rfl) ?_
  all_goals refine awpOps_cons (op_alloc (o := 7) z29_WrldS rfl rfl) ?_
  all_goals refine awpOps_nil ?_
  refine awp_seq (awp_seq_to (s' := mkSt 52 [(1, .v id), (3, .box 5 (IsLens.whole WrldS)), (5, .box 6 (IsLens.whole Pay)), (6, .box 7 (IsLens.whole WrldS)), (28, .v (!(within id 1 4 && !decide (id = w.bad) && payOk p && decide (w.log.length < 80))))] [(1, .arr (w.nodes.map sN)), (5, .cell (sW w)), (6, .cell p), (7, .cell WrldS.zero)]) ?_ ?_)
  · all_goals refine awp_region (id := 1) ?_
    all_goals refine awpOps_cons (op_mv rfl (Conv.of rfl) rfl) ?_
    all_goals refine awpOps_cons (op_call fb80 (.cons rfl (Conv.of rfl) (.cons rfl (Conv.of rfl) (.cons rfl (Conv.of rfl) (.nil _)))) (l6In_ct _ _ _) (argOk rfl rfl (argOk rfl rfl (argOk rfl rfl argOk0))) rfl rfl) ?_
    all_goals refine awpOps_cons (op_not rfl rfl) ?_
    all_goals refine awpOps_cons (op_mv rfl (Conv.of rfl) rfl) ?_
    all_goals refine g_split (t := 13) rfl (fun h => ?_) (fun h => ?_)
    all_goals first | refine awpOps_cons (g_off rfl rfl rfl rfl rfl) ?_ | refine awpOps_cons (g_on rfl rfl rfl (op_mv rfl (Conv.of rfl) rfl)) ?_
    all_goals first | refine awpOps_cons (g_off rfl rfl rfl rfl rfl) ?_ | refine awpOps_cons (g_on rfl rfl rfl (op_fab f29_3_WrldS rfl rfl)) ?_
    all_goals first | refine awpOps_cons (g_off rfl rfl rfl rfl rfl) ?_ | refine awpOps_cons (g_on rfl rfl rfl (op_ld ty3 rfl rfl rfl)) ?_
    all_goals first | refine awpOps_cons (g_off rfl rfl rfl rfl rfl) ?_ | refine awpOps_cons (g_on rfl rfl rfl (op_eql rfl rfl rfl)) ?_
    all_goals refine awpOps_cons (op_pick rfl rfl rfl rfl) ?_
    all_goals refine awpOps_cons (op_mv rfl (Conv.of rfl) rfl) ?_
    all_goals first | refine g_lit (t := 19) (b := true) rfl ?_ | refine g_split (t := 19) rfl (fun h => ?_) (fun h => ?_)
    all_goals first | refine awpOps_cons (g_off rfl rfl rfl rfl rfl) ?_ | refine awpOps_cons (g_on rfl rfl rfl (op_ld ty58 rfl rfl rfl)) ?_
    all_goals first | refine awpOps_cons (g_off rfl rfl rfl rfl rfl) ?_ | refine awpOps_cons (g_on rfl rfl rfl (op_call fb129 (.cons rfl (Conv.of rfl) (.nil _)) (sPayOk_ct _) (argOk rfl rfl argOk0) rfl rfl)) ?_
    all_goals first | refine awpOps_cons (g_off rfl rfl rfl rfl rfl) ?_ | refine awpOps_cons (g_on rfl rfl rfl (op_not rfl rfl)) ?_
    all_goals refine awpOps_cons (op_pick rfl rfl rfl rfl) ?_
    all_goals refine awpOps_cons (op_mv rfl (Conv.of rfl) rfl) ?_
    all_goals first | refine g_lit (t := 24) (b := true) rfl ?_ | refine g_split (t := 24) rfl (fun h => ?_) (fun h => ?_)
    all_goals first | refine awpOps_cons (g_off rfl rfl rfl rfl rfl) ?_ | refine awpOps_cons (g_on rfl rfl rfl (op_ldd ty29_WrldS rfl rfl rfl)) ?_
    all_goals first | refine awpOps_cons (g_off rfl rfl rfl rfl rfl) ?_ | refine awpOps_cons (g_on rfl rfl rfl (op_callO fb130 (.cons rfl (Conv.of rfl) (.nil _)) (l21Room_ct w _) (olsk rfl ols0) (oksk (by exact obOkNs) oks0) (oksk (by exact obOkNs) oks0) rfl (argOb rfl rfl rfl argO0) (fun o ho => by cases ho) rfl)) ?_
    all_goals first | refine awpOps_cons (g_off rfl rfl rfl rfl rfl) ?_ | refine awpOps_cons (g_on rfl rfl rfl (op_not rfl rfl)) ?_
    all_goals refine awpOps_cons (op_pick rfl rfl rfl rfl) ?_
    all_goals refine awpOps_nil ?_
    all_goals exact Le.mk rfl (tle rfl (rfl) rfl (tlb rfl rfl rfl (tlb rfl rfl rfl (tlb rfl rfl rfl (tle rfl (by (simp_all [sW]; try (rw [Bool.eq_iff_iff]; simp; try omega))) rfl tln))))) (olk rfl (by exact obOkNs) (olk rfl (by exact obOkS rfl) (olk rfl (by exact obOk_cell) (olk rfl (by exact obOkS0) oln)))) (hS_sub (a := so w) rfl)
  refine awp_cond rfl (fun h => ?_) (fun h => ?_)
  · all_goals refine awp_seq (awp_region (id := 2) ?_)
    all_goals refine awpOps_cons (op_ldm ty29_WrldS rfl rfl rfl) ?_
    all_goals refine awpOps_cons (op_stm ty29_WrldS rfl rfl rfl) ?_
    all_goals refine awpOps_nil ?_
    refine awp_ret ?_
    repeat first | refine rt_seq ?_ | refine rt_block ?_
    refine ⟨_, _, res1C (ol := so w) ty29_WrldS rfl rfl (inOne rfl) (olk rfl obOkNs oln) (hS_sub rfl), ?_, ?_⟩
    · have h' := not_t h
      have e : wproposeF w id p = w := by
        unfold wproposeF honestB
        rw [if_neg]
        intro hh
        simp only [Bool.and_eq_true] at hh
        simp [hh.1.1.1, hh.1.1.2, hh.1.2, hh.2] at h'
      rw [e]
    · have h' := not_t h
      have e : wproposeF w id p = w := by
        unfold wproposeF honestB
        rw [if_neg]
        intro hh
        simp only [Bool.and_eq_true] at hh
        simp [hh.1.1.1, hh.1.1.2, hh.1.2, hh.2] at h'
      rw [e]
  · have h' := not_f h
    simp only [Bool.and_eq_true] at h'
    have hid : 1 ≤ id ∧ id ≤ 4 := by simpa [within] using h'.1.1.1
    have hlt : (id - 1).toNat < w.nodes.length := by omega
    have hx : w.nodes[(id - 1).toNat]? = some w.nodes[(id - 1).toNat] := List.getElem?_eq_getElem hlt
    have hno := hw.nodes _ (List.getElem_mem hlt)
    generalize hnn : w.nodes[(id - 1).toNat] = n at hx hno
    have hx' : (w.nodes.map sN)[(id - 1).toNat]? = some (sN n) := by rw [List.getElem?_map, hx]; rfl
    have hy : ∀ y : NodS, ((w.nodes.map sN).set (id - 1).toNat y)[(id - 1).toNat]? = some y := fun y => by
      rw [List.getElem?_set_self (by rw [List.length_map]; exact hlt)]
    have hln : ((w.nodes.map sN).length : Int) = 4 := by simp [h4]
    have hgd := hw.fine.seen n (List.mem_of_getElem? hx)
    have e : wproposeF w id p = putF w (id - 1).toNat (proposeF n p) := by
      unfold wproposeF honestB
      rw [if_pos (by simp only [h'.1.1.1, h'.1.1.2, h'.1.2, h'.2, Bool.and_self]), hx]
    rw [e]
    refine awp_skip ?_
    all_goals refine awp_seq (dr_start (id := 3) ?_)
    all_goals refine dr_cons (op_fab f29_1_WrldS rfl rfl) ?_
    all_goals refine dr_cons (op_ld ty26_NRef rfl rfl rfl) ?_
    all_goals refine dr_cons (op_mv rfl (Conv.of rfl) rfl) ?_
    all_goals refine dr_cons (op_sub rfl rfl rfl (by omega)) ?_
    all_goals refine dr_cons (op_ixA sl26_NodS rfl rfl rfl rfl ⟨by omega, by omega⟩) ?_
    all_goals refine dr_cons (op_ldme ty41_NodS rfl rfl hx' rfl) ?_
    all_goals refine dr_cons (op_ld ty58 rfl rfl rfl) ?_
    all_goals refine dr_cons (OpOk.emit (d := 38) (o' := 9) 28 (op_callM (s := 36) (ol := []) (ol' := []) (pre := []) fb131 (.nil _) rfl (.cons rfl (Conv.of rfl) (.nil _)) (l12Propose_w n p hno) ols0 oks0 oks0 rfl argO0 (argOk' rfl rfl argO0) (fun o ho => absurd (show o ∈ ([] : List Nat) from ho) (by simp)) (fun o ho => absurd (show o ∈ ([] : List Nat) from ho) (by simp)) rfl) rfl rfl rfl rfl rfl) ?_
    all_goals refine dr_cons (op_mv rfl (Conv.of rfl) rfl) ?_
    all_goals refine dr_cons (op_ext rfl rfl rfl) ?_
    all_goals refine dr_cons (op_ext rfl rfl rfl) ?_
    all_goals refine dr_cons (op_ext rfl rfl rfl) ?_
    all_goals refine dr_cons (op_alloc (o := 10) z41_NodR rfl rfl) ?_
    all_goals refine dr_cons (op_alloc (o := 11) z48 rfl rfl) ?_
    all_goals refine dr_cons (op_st ty41_NodR rfl rfl (Conv.of rfl) rfl) ?_
    all_goals refine dr_cons (op_st ty48 rfl rfl (Conv.of rfl) rfl) ?_
    all_goals refine dr_cons (op_as rfl (Conv.of rfl) rfl) ?_
    all_goals refine dr_nil mixed rfl ?_
    all_goals refine awp_seq (awp_region (id := 4) ?_)
    all_goals refine awpOps_cons (op_fab f29_1_WrldS rfl rfl) ?_
    all_goals refine awpOps_cons (op_ld ty26_NRef rfl rfl rfl) ?_
    all_goals refine awpOps_cons (op_mv rfl (Conv.of rfl) rfl) ?_
    all_goals refine awpOps_cons (op_sub rfl rfl rfl (by omega)) ?_
    all_goals refine awpOps_cons (op_ld ty41_NodR rfl rfl rfl) ?_
    all_goals refine awpOps_cons (op_ixA sl26_NodS rfl rfl rfl rfl ⟨by omega, by simp; omega⟩) ?_
    all_goals refine awpOps_cons (op_steR 28 rfl ty41_NodS rfl rfl rfl rfl (hy _)) ?_
    all_goals refine awpOps_nil ?_
    all_goals refine awp_seq (awp_region (id := 5) ?_)
    all_goals refine awpOps_cons (op_ldm ty29_WrldS rfl rfl rfl) ?_
    all_goals refine awpOps_cons (op_ld ty48 rfl rfl rfl) ?_
    all_goals refine awpOps_cons (op_mv rfl (Conv.of rfl) rfl) ?_
    all_goals refine awpOps_cons (op_callM (s := 48) (pre := []) fb119 (.nil _) rfl (.cons rfl (Conv.of rfl) (.cons rfl (Conv.of rfl) (.nil _))) (l21Send_ct w _ _ _ hw.fine.log (proposeF_len p hgd)) (olsk rfl ols0) (oksk (by exact obOkNs) oks0) (oksk (by exact obOkNs) oks0) rfl argO0 (argOk' rfl rfl (argOk' rfl rfl argO0)) (inOne rfl) (inOne rfl) rfl) ?_
    all_goals refine awpOps_cons (op_stm ty29_WrldS rfl rfl rfl) ?_
    all_goals refine awpOps_nil ?_
    refine awp_ret ?_
    repeat first | refine rt_seq ?_ | refine rt_block ?_
    refine ⟨_, _, res1C (ol := [(1, .arr _)]) ty29_WrldS rfl rfl (inOne rfl) (olk rfl obOkNs oln) (hS_sub rfl), ?_, ?_⟩
    · rw [← sW_put]; rfl
    · exact congrArg (fun z => obs [(1, Wt.Obj.arr z)]) (by rw [put_nodes]; exact set_sN _ _ _ _)
set_option maxHeartbeats 4000000 in
theorem l21Bring_ct (w : Wrld) (at_ id : Int) (hw : FineX w) : CtO Tryz.prog 117 [.v (sW w), .v at_, .v id] (so w) (.v (sW (wbringF w at_ id))) (so (wbringF w at_ id)) := by
  have h4 := hw.four
  have hlg := hw.fine.log.len
  have hidle : ∀ h' : (within at_ 0 ((w.log.length : Int) - 1) && within id 1 4 && !decide (id = w.bad) && decide (w.log.length < 80)) = false, wbringF w at_ id = w := fun h' => by
    unfold wbringF honestB
    rw [if_neg]
    intro hh
    simp only [Bool.and_eq_true] at hh
    simp [hh.1.1.1, hh.1.1.2, hh.1.2, hh.2] at h'
  refine Ct.intro Tryz.func117 rfl rfl ?_
  all_goals refine awp_seq (awp_region (id := 0) ?_)
  all_goals refine awpOps_cons (op_boxm (o := 5) ty29_WrldS rfl rfl rfl rfl) ?_
  all_goals refine awpOps_cons (op_alloc (o := 6) z29_WrldS rfl rfl) ?_
  all_goals refine awpOps_nil ?_
  refine awp_seq (awp_seq_to (s' := mkSt 60 [(1, .v at_), (2, .v id), (3, .box 5 (IsLens.whole WrldS)), (6, .box 6 (IsLens.whole WrldS)), (32, .v (!(within at_ 0 ((w.log.length : Int) - 1) && within id 1 4 && !decide (id = w.bad) && decide (w.log.length < 80))))] [(1, .arr (w.nodes.map sN)), (5, .cell (sW w)), (6, .cell WrldS.zero)]) ?_ ?_)
  · all_goals refine awp_region (id := 1) ?_
    all_goals refine awpOps_cons (op_mv rfl (Conv.of rfl) rfl) ?_
    all_goals refine awpOps_cons (op_fab f29_2_WrldS rfl rfl) ?_
    all_goals refine awpOps_cons (op_ldl ty27_OListVote rfl rfl rfl) ?_
    all_goals refine awpOps_cons (op_len sl27 rfl rfl) ?_
    all_goals refine awpOps_cons (op_sub rfl rfl rfl (by (simp only [sW]; omega))) ?_
    all_goals refine awpOps_cons (op_call fb80 (.cons rfl (Conv.of rfl) (.cons rfl (Conv.of rfl) (.cons rfl (Conv.of rfl) (.nil _)))) (l6In_ct _ _ _) (argOk rfl rfl (argOk rfl rfl (argOk rfl rfl argOk0))) rfl rfl) ?_
    all_goals refine awpOps_cons (op_not rfl rfl) ?_
    all_goals refine awpOps_cons (op_mv rfl (Conv.of rfl) rfl) ?_
    all_goals refine g_split (t := 17) rfl (fun h => ?_) (fun h => ?_)
    all_goals first | refine awpOps_cons (g_off rfl rfl rfl rfl rfl) ?_ | refine awpOps_cons (g_on rfl rfl rfl (op_mv rfl (Conv.of rfl) rfl)) ?_
    all_goals first | refine awpOps_cons (g_off rfl rfl rfl rfl rfl) ?_ | refine awpOps_cons (g_on rfl rfl rfl (op_call fb80 (.cons rfl (Conv.of rfl) (.cons rfl (Conv.of rfl) (.cons rfl (Conv.of rfl) (.nil _)))) (l6In_ct _ _ _) (argOk rfl rfl (argOk rfl rfl (argOk rfl rfl argOk0))) rfl rfl)) ?_
    all_goals first | refine awpOps_cons (g_off rfl rfl rfl rfl rfl) ?_ | refine awpOps_cons (g_on rfl rfl rfl (op_not rfl rfl)) ?_
    all_goals refine awpOps_cons (op_pick rfl rfl rfl rfl) ?_
    all_goals refine awpOps_cons (op_mv rfl (Conv.of rfl) rfl) ?_
    all_goals first | refine g_lit (t := 22) (b := true) rfl ?_ | refine g_split (t := 22) rfl (fun h => ?_) (fun h => ?_)
    all_goals first | refine awpOps_cons (g_off rfl rfl rfl rfl rfl) ?_ | refine awpOps_cons (g_on rfl rfl rfl (op_mv rfl (Conv.of rfl) rfl)) ?_
    all_goals first | refine awpOps_cons (g_off rfl rfl rfl rfl rfl) ?_ | refine awpOps_cons (g_on rfl rfl rfl (op_fab f29_3_WrldS rfl rfl)) ?_
    all_goals first | refine awpOps_cons (g_off rfl rfl rfl rfl rfl) ?_ | refine awpOps_cons (g_on rfl rfl rfl (op_ld ty3 rfl rfl rfl)) ?_
    all_goals first | refine awpOps_cons (g_off rfl rfl rfl rfl rfl) ?_ | refine awpOps_cons (g_on rfl rfl rfl (op_eql rfl rfl rfl)) ?_
    all_goals refine awpOps_cons (op_pick rfl rfl rfl rfl) ?_
    all_goals refine awpOps_cons (op_mv rfl (Conv.of rfl) rfl) ?_
    all_goals first | refine g_lit (t := 28) (b := true) rfl ?_ | refine g_split (t := 28) rfl (fun h => ?_) (fun h => ?_)
    all_goals first | refine awpOps_cons (g_off rfl rfl rfl rfl rfl) ?_ | refine awpOps_cons (g_on rfl rfl rfl (op_ldd ty29_WrldS rfl rfl rfl)) ?_
    all_goals first | refine awpOps_cons (g_off rfl rfl rfl rfl rfl) ?_ | refine awpOps_cons (g_on rfl rfl rfl (op_callO fb130 (.cons rfl (Conv.of rfl) (.nil _)) (l21Room_ct w _) (olsk rfl ols0) (oksk (by exact obOkNs) oks0) (oksk (by exact obOkNs) oks0) rfl (argOb rfl rfl rfl argO0) (fun o ho => by cases ho) rfl)) ?_
    all_goals first | refine awpOps_cons (g_off rfl rfl rfl rfl rfl) ?_ | refine awpOps_cons (g_on rfl rfl rfl (op_not rfl rfl)) ?_
    all_goals refine awpOps_cons (op_pick rfl rfl rfl rfl) ?_
    all_goals refine awpOps_nil ?_
    all_goals exact Le.mk rfl (tle rfl (rfl) rfl (tle rfl (rfl) rfl (tlb rfl rfl rfl (tlb rfl rfl rfl (tle rfl (by (simp_all [sW]; try (rw [Bool.eq_iff_iff]; simp; try omega))) rfl tln))))) (olk rfl (by exact obOkNs) (olk rfl (by exact obOkS rfl) (olk rfl (by exact obOkS0) oln))) (hS_sub (a := so w) rfl)
  refine awp_cond rfl (fun h => ?_) (fun h => ?_)
  · all_goals refine awp_seq (awp_region (id := 2) ?_)
    all_goals refine awpOps_cons (op_ldm ty29_WrldS rfl rfl rfl) ?_
    all_goals refine awpOps_cons (op_stm ty29_WrldS rfl rfl rfl) ?_
    all_goals refine awpOps_nil ?_
    refine awp_ret ?_
    repeat first | refine rt_seq ?_ | refine rt_block ?_
    refine ⟨_, _, res1C (ol := so w) ty29_WrldS rfl rfl (inOne rfl) (olk rfl obOkNs oln) (hS_sub rfl), ?_, ?_⟩
    · rw [hidle (not_t h)]
    · rw [hidle (not_t h)]
  · have h' := not_f h
    simp only [Bool.and_eq_true] at h'
    have hid : 1 ≤ id ∧ id ≤ 4 := by simpa [within] using h'.1.1.2
    have hat : 0 ≤ at_ ∧ at_ ≤ (w.log.length : Int) - 1 := by simpa [within] using h'.1.1.1
    have hlt : (id - 1).toNat < w.nodes.length := by omega
    have hx : w.nodes[(id - 1).toNat]? = some w.nodes[(id - 1).toNat] := List.getElem?_eq_getElem hlt
    have hltv : at_.toNat < w.log.length := by omega
    have hv : w.log[at_.toNat]? = some w.log[at_.toNat] := List.getElem?_eq_getElem hltv
    have hno := hw.nodes _ (List.getElem_mem hlt)
    have hvl := hw.fine.log.v _ (List.getElem_mem hltv)
    generalize hnn : w.nodes[(id - 1).toNat] = n at hx hno
    generalize hvv : w.log[at_.toNat] = v at hv hvl
    have hv' : (sW w).log.l[at_.toNat]? = some v := hv
    have hx' : (w.nodes.map sN)[(id - 1).toNat]? = some (sN n) := by rw [List.getElem?_map, hx]; rfl
    have hy : ∀ y : NodS, ((w.nodes.map sN).set (id - 1).toNat y)[(id - 1).toNat]? = some y := fun y => by
      rw [List.getElem?_set_self (by rw [List.length_map]; exact hlt)]
    have hln : ((w.nodes.map sN).length : Int) = 4 := by simp [h4]
    have hgd := hw.fine.seen n (List.mem_of_getElem? hx)
    have e : wbringF w at_ id = putF w (id - 1).toNat (hearF n v) := by
      unfold wbringF honestB
      rw [if_pos (by simp only [h'.1.1.1, h'.1.1.2, h'.1.2, h'.2, Bool.and_self]), hx, hv]
    rw [e]
    refine awp_skip ?_
    all_goals refine awp_seq (dr_start (id := 3) ?_)
    all_goals refine dr_cons (op_fab f29_1_WrldS rfl rfl) ?_
    all_goals refine dr_cons (op_ld ty26_NRef rfl rfl rfl) ?_
    all_goals refine dr_cons (op_mv rfl (Conv.of rfl) rfl) ?_
    all_goals refine dr_cons (op_sub rfl rfl rfl (by omega)) ?_
    all_goals refine dr_cons (op_ixA sl26_NodS rfl rfl rfl rfl ⟨by omega, by omega⟩) ?_
    all_goals refine dr_cons (op_ldme ty41_NodS rfl rfl hx' rfl) ?_
    all_goals refine dr_cons (op_fab f29_2_WrldS rfl rfl) ?_
    all_goals refine dr_cons (op_ldl ty27_OListVote rfl rfl rfl) ?_
    all_goals refine dr_cons (op_mv rfl (Conv.of rfl) rfl) ?_
    all_goals refine dr_cons (op_ix sl27 rfl rfl rfl (by omega) hv') ?_
    all_goals refine dr_cons (op_ldr ty48 rfl rfl) ?_
    all_goals refine dr_cons (OpOk.emit (d := 46) (o' := 9) 32 (op_callM (s := 40) (ol := []) (ol' := []) (pre := []) fb103 (.nil _) rfl (.cons rfl (Conv.of rfl) (.nil _)) (l12Hear_w n v hno hvl) ols0 oks0 oks0 rfl argO0 (argOk' rfl rfl argO0) (fun o ho => absurd (show o ∈ ([] : List Nat) from ho) (by simp)) (fun o ho => absurd (show o ∈ ([] : List Nat) from ho) (by simp)) rfl) rfl rfl rfl rfl rfl) ?_
    all_goals refine dr_cons (op_mv rfl (Conv.of rfl) rfl) ?_
    all_goals refine dr_cons (op_ext rfl rfl rfl) ?_
    all_goals refine dr_cons (op_ext rfl rfl rfl) ?_
    all_goals refine dr_cons (op_ext rfl rfl rfl) ?_
    all_goals refine dr_cons (op_alloc (o := 10) z41_NodR rfl rfl) ?_
    all_goals refine dr_cons (op_alloc (o := 11) z48 rfl rfl) ?_
    all_goals refine dr_cons (op_st ty41_NodR rfl rfl (Conv.of rfl) rfl) ?_
    all_goals refine dr_cons (op_st ty48 rfl rfl (Conv.of rfl) rfl) ?_
    all_goals refine dr_cons (op_as rfl (Conv.of rfl) rfl) ?_
    all_goals refine dr_nil mixed rfl ?_
    all_goals refine awp_seq (awp_region (id := 4) ?_)
    all_goals refine awpOps_cons (op_fab f29_1_WrldS rfl rfl) ?_
    all_goals refine awpOps_cons (op_ld ty26_NRef rfl rfl rfl) ?_
    all_goals refine awpOps_cons (op_mv rfl (Conv.of rfl) rfl) ?_
    all_goals refine awpOps_cons (op_sub rfl rfl rfl (by omega)) ?_
    all_goals refine awpOps_cons (op_ld ty41_NodR rfl rfl rfl) ?_
    all_goals refine awpOps_cons (op_ixA sl26_NodS rfl rfl rfl rfl ⟨by omega, by simp; omega⟩) ?_
    all_goals refine awpOps_cons (op_steR 32 rfl ty41_NodS rfl rfl rfl rfl (hy _)) ?_
    all_goals refine awpOps_nil ?_
    all_goals refine awp_seq (awp_region (id := 5) ?_)
    all_goals refine awpOps_cons (op_ldm ty29_WrldS rfl rfl rfl) ?_
    all_goals refine awpOps_cons (op_ld ty48 rfl rfl rfl) ?_
    all_goals refine awpOps_cons (op_mv rfl (Conv.of rfl) rfl) ?_
    all_goals refine awpOps_cons (op_callM (s := 56) (pre := []) fb119 (.nil _) rfl (.cons rfl (Conv.of rfl) (.cons rfl (Conv.of rfl) (.nil _))) (l21Send_ct w _ _ _ hw.fine.log (hearF_len v hgd)) (olsk rfl ols0) (oksk (by exact obOkNs) oks0) (oksk (by exact obOkNs) oks0) rfl argO0 (argOk' rfl rfl (argOk' rfl rfl argO0)) (inOne rfl) (inOne rfl) rfl) ?_
    all_goals refine awpOps_cons (op_stm ty29_WrldS rfl rfl rfl) ?_
    all_goals refine awpOps_nil ?_
    refine awp_ret ?_
    repeat first | refine rt_seq ?_ | refine rt_block ?_
    refine ⟨_, _, res1C (ol := [(1, .arr _)]) ty29_WrldS rfl rfl (inOne rfl) (olk rfl obOkNs oln) (hS_sub rfl), ?_, ?_⟩
    · rw [← sW_put]; rfl
    · exact congrArg (fun z => obs [(1, Wt.Obj.arr z)]) (by rw [put_nodes]; exact set_sN _ _ _ _)
end Go.Proofs.YtmdhfalfppkpeaaGreat

/- The reference: what happens in a world; a play. -/
set_option linter.unusedVariables false
set_option linter.unusedSimpArgs false
namespace Go.Proofs.YtmdhfalfppkpeaaGreat
open Go Go.Wt
theorem send_nodes (w : Wrld) (v : Vote) : (sendF w v).nodes = w.nodes := by unfold sendF; split <;> rfl
set_option maxHeartbeats 1000000 in
theorem l21Tick_ct (w : Wrld) (hw : Fine w) : CtO Tryz.prog 77 [.v (sW w)] (so w) (.v (sW (tickF w))) (so (tickF w)) := by
  have hep := hw.ep
  have h4 := hw.four
  refine Ct.intro Tryz.func77 rfl rfl ?_
  all_goals refine awp_seq (awp_region (id := 0) ?_)
  all_goals refine awpOps_cons (op_boxm (o := 5) ty29_WrldS rfl rfl rfl rfl) ?_
  all_goals refine awpOps_cons (op_alloc (o := 6) z29_WrldS rfl rfl) ?_
  all_goals refine awpOps_nil ?_
  all_goals refine awp_seq (awp_region (id := 1) ?_)
  all_goals refine awpOps_cons (op_fab f29_0_WrldS rfl rfl) ?_
  all_goals refine awpOps_cons (op_ld ty3 rfl rfl rfl) ?_
  all_goals refine awpOps_cons (op_add rfl rfl rfl (by ((try simp only [sW]); omega))) ?_
  all_goals refine awpOps_cons (op_min rfl rfl rfl) ?_
  all_goals refine awpOps_cons (op_fab f29_0_WrldS rfl rfl) ?_
  all_goals refine awpOps_cons (op_st ty3 rfl rfl (Conv.of rfl) rfl) ?_
  all_goals refine awpOps_nil ?_
  all_goals refine awp_seq (awp_seq (awp_region (id := 2) ?_))
  all_goals refine awpOps_cons (op_as rfl (Conv.of rfl) rfl) ?_
  all_goals refine awpOps_nil ?_
  refine awp_block ?_
  refine awp_loop' (fun n_ s => ∃ (k : Nat), ∃ (hn : n_ + k = 4), s = mkSt 29 [(1, .box 5 (IsLens.whole WrldS)), (2, .box 6 (IsLens.whole WrldS)), (3, .v (k : Int))] [(1, .arr (((w.nodes.take k).map (fun n => enterF n (min (w.epoch + 1) 30)) ++ w.nodes.drop k).map sN)), (5, .cell (sW (tickF w))), (6, .cell WrldS.zero)]) (4) ⟨0, by omega, rfl⟩ (Le.mk rfl (tlb rfl rfl rfl (tlb rfl rfl rfl (tle rfl (rfl) rfl tln))) (olk (by rfl) (by exact obOkNs) (olk rfl (by exact obOkS rfl) (olk rfl (by exact obOkS0) oln))) (hS_sub (a := so w) rfl)) ?_
  rintro n_ s ⟨k, hn, rfl⟩
  have hlen : (((w.nodes.take k).map (fun n => enterF n (min (w.epoch + 1) 30)) ++ w.nodes.drop k).map sN).length = 4 := by simp; omega
  all_goals refine awp_seq (awp_seq (awp_region (id := 3) ?_))
  all_goals refine awpOps_cons (op_mv rfl (Conv.of rfl) rfl) ?_
  all_goals refine awpOps_cons (op_fab f29_1_WrldS rfl rfl) ?_
  all_goals refine awpOps_cons (op_ld ty26_NRef rfl rfl rfl) ?_
  all_goals refine awpOps_cons (op_lenA sl26_NodS rfl rfl rfl) ?_
  all_goals refine awpOps_cons (op_lss rfl rfl rfl) ?_
  all_goals refine awpOps_nil ?_
  refine awp_cond rfl (fun h => ?_) (fun h => ?_)
  · have hlt : k < 4 := by rw [hlen] at h; simp at h; omega
    have hx : w.nodes[k]? = some w.nodes[k] := List.getElem?_eq_getElem (by omega)
    have hx' : (((w.nodes.take k).map (fun n => enterF n (min (w.epoch + 1) 30)) ++ w.nodes.drop k).map sN)[(k : Int).toNat]? = some (sN w.nodes[k]) := by
      rw [List.getElem?_map, List.getElem?_append_right (by simp; omega)]
      simp [Nat.min_eq_left (show k ≤ w.nodes.length by omega), hx]
    have hne := hw.nep _ (List.getElem_mem (show k < w.nodes.length by omega))
    have hy : ∀ y : NodS, ((((w.nodes.take k).map (fun n => enterF n (min (w.epoch + 1) 30)) ++ w.nodes.drop k).map sN).set (k : Int).toNat y)[(k : Int).toNat]? = some y := fun y => by
      rw [List.getElem?_set_self (by rw [hlen]; omega)]
    have hnext : ∀ y : NodS, ((((w.nodes.take k).map (fun n => enterF n (min (w.epoch + 1) 30)) ++ w.nodes.drop k).map sN).set (k : Int).toNat y).set (k : Int).toNat (sN (enterF w.nodes[k] (min (w.epoch + 1) 30))) = ((w.nodes.take (k + 1)).map (fun n => enterF n (min (w.epoch + 1) 30)) ++ w.nodes.drop (k + 1)).map sN := fun y => by
      rw [set_sN]
      exact congrArg _ (tick_step hx).symm
    refine awp_skip ?_
    refine awp_seq (awp_block ?_)
    all_goals refine dr_start (id := 5) ?_
    all_goals refine dr_cons (op_fab f29_1_WrldS rfl rfl) ?_
    all_goals refine dr_cons (op_ld ty26_NRef rfl rfl rfl) ?_
    all_goals refine dr_cons (op_mv rfl (Conv.of rfl) rfl) ?_
    all_goals refine dr_cons (op_fab f29_1_WrldS rfl rfl) ?_
    all_goals refine dr_cons (op_ld ty26_NRef rfl rfl rfl) ?_
    all_goals refine dr_cons (op_mv rfl (Conv.of rfl) rfl) ?_
    all_goals refine dr_cons (op_ixA sl26_NodS rfl rfl rfl rfl ⟨by omega, by omega⟩) ?_
    all_goals refine dr_cons (op_ldme ty41_NodS rfl rfl hx' rfl) ?_
    all_goals refine dr_cons (op_fab f29_0_WrldS rfl rfl) ?_
    all_goals refine dr_cons (op_ld ty3 rfl rfl rfl) ?_
    all_goals refine dr_cons (op_callM (s := 23) (ol := []) (ol' := []) (pre := []) fb99 (.nil _) rfl (.cons rfl (Conv.of rfl) (.nil _)) (l12Enter_ct _ _ hne) ols0 oks0 oks0 rfl argO0 (argOk' rfl rfl argO0) (fun o ho => absurd (show o ∈ ([] : List Nat) from ho) (by simp)) (fun o ho => absurd (show o ∈ ([] : List Nat) from ho) (by simp)) rfl) ?_
    all_goals refine dr_cons (op_ixA sl26_NodS rfl rfl rfl rfl ⟨by omega, by rw [List.length_set]; omega⟩) ?_
    all_goals refine dr_cons (op_stme ty41_NodS rfl rfl rfl (hy _)) ?_
    all_goals refine dr_nil mixed rfl ?_
    all_goals refine awp_region (id := 4) ?_
    all_goals refine awpOps_cons (op_mv rfl (Conv.of rfl) rfl) ?_
    all_goals refine awpOps_cons (op_add rfl rfl rfl (by omega)) ?_
    all_goals refine awpOps_cons (op_as rfl (Conv.of rfl) rfl) ?_
    all_goals refine awpOps_nil ?_
    repeat first | refine nx_seq ?_ | refine nx_block ?_
    exact ⟨n_ - 1, _, by omega, ⟨k + 1, by omega, rfl⟩, Le.mk rfl (tlb rfl rfl rfl (tlb rfl rfl rfl (tle rfl (rfl) rfl tln))) (olk (by (exact congrArg Obj.arr (hnext _))) (by exact obOkNs) (olk rfl (by exact obOkS rfl) (olk rfl (by exact obOkS0) oln))) (hS_sub (a := so w) rfl)⟩
  · refine awp_exit ?_
    repeat refine ex_seq ?_
    refine ex_block ?_
    have hk : k = 4 := by rw [hlen] at h; simp at h; omega
    subst hk
    all_goals refine awp_seq (awp_region (id := 6) ?_)
    all_goals refine awpOps_cons (op_ldm ty29_WrldS rfl rfl rfl) ?_
    all_goals refine awpOps_cons (op_stm ty29_WrldS rfl rfl rfl) ?_
    all_goals refine awpOps_nil ?_
    refine awp_ret ?_
    repeat first | refine rt_seq ?_ | refine rt_block ?_
    refine ⟨_, _, res1C (ol := [(1, .arr _)]) ty29_WrldS rfl rfl (inOne rfl) (olk rfl obOkNs oln) (hS_sub rfl), rfl, ?_⟩
    exact congrArg (fun z => obs [(1, Wt.Obj.arr z)]) (by rw [take_end (by omega), drop_end (by omega), List.append_nil]; rfl)
set_option maxHeartbeats 1000000 in
theorem l21Do_ct (w : Wrld) (e : Evt) (hw : FineX w) : CtO Tryz.prog 58 [.v (sW w), .v e] (so w) (.v (sW (doF w e))) (so (doF w e)) := by
  refine Ct.intro Tryz.func58 rfl rfl ?_
  all_goals refine awp_seq (awp_region (id := 0) ?_)
  all_goals refine awpOps_cons (op_boxm (o := 5) ty29_WrldS rfl rfl rfl rfl) ?_
  all_goals refine awpOps_cons (op_box (o := 6) ty78 rfl (Conv.of rfl) rfl rfl) ?_
  all_goals refine awpOps_cons (op_alloc (o := 7) z29_WrldS rfl rfl) ?_
  all_goals refine awpOps_nil ?_
  all_goals refine awp_seq (awp_seq (awp_region (id := 1) ?_))
  all_goals refine awpOps_cons (op_fab f78_0 rfl rfl) ?_
  all_goals refine awpOps_cons (op_ld ty3 rfl rfl rfl) ?_
  all_goals refine awpOps_nil ?_
  refine awp_block ?_
  all_goals refine awp_seq (awp_region (id := 2) ?_)
  all_goals refine awpOps_cons (op_eql rfl rfl rfl) ?_
  all_goals refine awpOps_cons (op_as rfl (Conv.of rfl) rfl) ?_
  all_goals refine awpOps_nil ?_
  refine awp_cond rfl (fun h1 => ?_) (fun h1 => ?_)
  · have k1 : e.kind = 1 := by simpa using h1
    all_goals refine awp_seq (awp_region (id := 3) ?_)
    all_goals refine awpOps_cons (op_ldm ty29_WrldS rfl rfl rfl) ?_
    all_goals refine awpOps_cons (op_callM (s := 9) (pre := []) fb77 (.nil _) rfl (.nil _) (l21Tick_ct w hw.fine) (olsk rfl ols0) (oksk (by exact obOkNs) oks0) (oksk (by exact obOkNs) oks0) rfl argO0 argO0 (inOne rfl) (inOne rfl) rfl) ?_
    all_goals refine awpOps_cons (op_stm ty29_WrldS rfl rfl rfl) ?_
    all_goals refine awpOps_nil ?_
    refine awp_ret ?_
    repeat first | refine rt_seq ?_ | refine rt_block ?_
    refine ⟨_, _, res1C (ol := so (tickF w)) ty29_WrldS rfl rfl (inOne rfl) (olk rfl obOkNs oln) (hS_sub rfl), ?_, ?_⟩ <;> rw [doF, if_pos k1]
  · have k1 : ¬ e.kind = 1 := by simpa using h1
    all_goals refine awp_seq (awp_region (id := 4) ?_)
    all_goals refine awpOps_cons (op_eql rfl rfl rfl) ?_
    all_goals refine awpOps_cons (op_as rfl (Conv.of rfl) rfl) ?_
    all_goals refine awpOps_nil ?_
    refine awp_cond rfl (fun h2 => ?_) (fun h2 => ?_)
    · have k2 : e.kind = 2 := by simpa using h2
      all_goals refine awp_seq (awp_region (id := 5) ?_)
      all_goals refine awpOps_cons (op_ldm ty29_WrldS rfl rfl rfl) ?_
      all_goals refine awpOps_cons (op_fab f78_1 rfl rfl) ?_
      all_goals refine awpOps_cons (op_ld ty3 rfl rfl rfl) ?_
      all_goals refine awpOps_cons (op_fab f78_3 rfl rfl) ?_
      all_goals refine awpOps_cons (op_ld ty58 rfl rfl rfl) ?_
      all_goals refine awpOps_cons (op_callM (s := 13) (pre := []) fb78 (.nil _) rfl (.cons rfl (Conv.of rfl) (.cons rfl (Conv.of rfl) (.nil _))) (l21Propose_ct w _ _ hw) (olsk rfl ols0) (oksk (by exact obOkNs) oks0) (oksk (by exact obOkNs) oks0) rfl argO0 (argOk' rfl rfl (argOk' rfl rfl argO0)) (inOne rfl) (inOne rfl) rfl) ?_
      all_goals refine awpOps_cons (op_stm ty29_WrldS rfl rfl rfl) ?_
      all_goals refine awpOps_nil ?_
      refine awp_ret ?_
      repeat first | refine rt_seq ?_ | refine rt_block ?_
      refine ⟨_, _, res1C (ol := so (wproposeF w e.a e.pay)) ty29_WrldS rfl rfl (inOne rfl) (olk rfl obOkNs oln) (hS_sub rfl), ?_, ?_⟩ <;> rw [doF, if_neg k1, if_pos k2]
    · have k2 : ¬ e.kind = 2 := by simpa using h2
      all_goals refine awp_seq (awp_region (id := 6) ?_)
      all_goals refine awpOps_cons (op_eql rfl rfl rfl) ?_
      all_goals refine awpOps_cons (op_as rfl (Conv.of rfl) rfl) ?_
      all_goals refine awpOps_nil ?_
      refine awp_cond rfl (fun h3 => ?_) (fun h3 => ?_)
      · have k3 : e.kind = 3 := by simpa using h3
        all_goals refine awp_seq (awp_region (id := 7) ?_)
        all_goals refine awpOps_cons (op_ldm ty29_WrldS rfl rfl rfl) ?_
        all_goals refine awpOps_cons (op_fab f78_1 rfl rfl) ?_
        all_goals refine awpOps_cons (op_ld ty3 rfl rfl rfl) ?_
        all_goals refine awpOps_cons (op_fab f78_2 rfl rfl) ?_
        all_goals refine awpOps_cons (op_ld ty3 rfl rfl rfl) ?_
        all_goals refine awpOps_cons (op_callM (s := 21) (pre := []) fb117 (.nil _) rfl (.cons rfl (Conv.of rfl) (.cons rfl (Conv.of rfl) (.nil _))) (l21Bring_ct w _ _ hw) (olsk rfl ols0) (oksk (by exact obOkNs) oks0) (oksk (by exact obOkNs) oks0) rfl argO0 (argOk' rfl rfl (argOk' rfl rfl argO0)) (inOne rfl) (inOne rfl) rfl) ?_
        all_goals refine awpOps_cons (op_stm ty29_WrldS rfl rfl rfl) ?_
        all_goals refine awpOps_nil ?_
        refine awp_ret ?_
        repeat first | refine rt_seq ?_ | refine rt_block ?_
        refine ⟨_, _, res1C (ol := so (wbringF w e.a e.b)) ty29_WrldS rfl rfl (inOne rfl) (olk rfl obOkNs oln) (hS_sub rfl), ?_, ?_⟩ <;> rw [doF, if_neg k1, if_neg k2, if_pos k3]
      · have k3 : ¬ e.kind = 3 := by simpa using h3
        all_goals refine awp_seq (awp_region (id := 8) ?_)
        all_goals refine awpOps_cons (op_eql rfl rfl rfl) ?_
        all_goals refine awpOps_cons (op_as rfl (Conv.of rfl) rfl) ?_
        all_goals refine awpOps_nil ?_
        refine awp_cond rfl (fun h4 => ?_) (fun h4 => ?_)
        · have k4 : e.kind = 4 := by simpa using h4
          refine awp_seq_to (s' := mkSt 45 [(2, .box 5 (IsLens.whole WrldS)), (3, .box 6 (IsLens.whole Evt)), (4, .box 7 (IsLens.whole WrldS)), (39, .v (voteOk e.vote && decide (e.vote.by_ = w.bad)))] [(1, .arr (w.nodes.map sN)), (5, .cell (sW w)), (6, .cell e), (7, .cell WrldS.zero)]) ?_ ?_
          · all_goals refine awp_region (id := 9) ?_
            all_goals refine awpOps_cons (op_fab f78_4 rfl rfl) ?_
            all_goals refine awpOps_cons (op_ld ty48 rfl rfl rfl) ?_
            all_goals refine awpOps_cons (op_call fb118 (.cons rfl (Conv.of rfl) (.nil _)) (l3Vote_ct _) (argOk rfl rfl argOk0) rfl rfl) ?_
            all_goals refine awpOps_cons (op_mv rfl (Conv.of rfl) rfl) ?_
            all_goals refine g_split (t := 32) rfl (fun h => ?_) (fun h => ?_)
            all_goals first | refine awpOps_cons (g_off rfl rfl rfl rfl rfl) ?_ | refine awpOps_cons (g_on rfl rfl rfl (op_fab f78_4 rfl rfl)) ?_
            all_goals first | refine awpOps_cons (g_off rfl rfl rfl rfl rfl) ?_ | refine awpOps_cons (g_on rfl rfl rfl (op_fab f48_0 rfl rfl)) ?_
            all_goals first | refine awpOps_cons (g_off rfl rfl rfl rfl rfl) ?_ | refine awpOps_cons (g_on rfl rfl rfl (op_ld ty3 rfl rfl rfl)) ?_
            all_goals first | refine awpOps_cons (g_off rfl rfl rfl rfl rfl) ?_ | refine awpOps_cons (g_on rfl rfl rfl (op_fab f29_3_WrldS rfl rfl)) ?_
            all_goals first | refine awpOps_cons (g_off rfl rfl rfl rfl rfl) ?_ | refine awpOps_cons (g_on rfl rfl rfl (op_ld ty3 rfl rfl rfl)) ?_
            all_goals first | refine awpOps_cons (g_off rfl rfl rfl rfl rfl) ?_ | refine awpOps_cons (g_on rfl rfl rfl (op_eql rfl rfl rfl)) ?_
            all_goals refine awpOps_cons (op_pick rfl rfl rfl rfl) ?_
            all_goals refine awpOps_nil ?_
            all_goals exact Le.mk rfl (tlb rfl rfl rfl (tlb rfl rfl rfl (tlb rfl rfl rfl (tle rfl (by (clear h1 h2 h3 h4; simp_all [sW]; try (rw [Bool.eq_iff_iff]; simp))) rfl tln)))) (olk rfl (by exact obOkNs) (olk rfl (by exact obOkS rfl) (olk rfl (by exact obOk_cell) (olk rfl (by exact obOkS0) oln)))) (hS_sub (a := so w) rfl)
          refine awp_cond rfl (fun h5 => ?_) (fun h5 => ?_)
          · have hvo : voteOk e.vote = true := by simp only [Bool.and_eq_true] at h5; exact h5.1
            all_goals refine awp_seq (awp_region (id := 10) ?_)
            all_goals refine awpOps_cons (op_ldm ty29_WrldS rfl rfl rfl) ?_
            all_goals refine awpOps_cons (op_fab f78_4 rfl rfl) ?_
            all_goals refine awpOps_cons (op_ld ty48 rfl rfl rfl) ?_
            all_goals refine awpOps_cons (op_callM (s := 40) (pre := []) fb119 (.nil _) rfl (.cons rfl (Conv.of rfl) (.cons rfl (Conv.of rfl) (.nil _))) (l21Send_ct w _ true _ hw.fine.log (voteOk_len hvo)) (olsk rfl ols0) (oksk (by exact obOkNs) oks0) (oksk (by exact obOkNs) oks0) rfl argO0 (argOk' rfl rfl (argOk' rfl rfl argO0)) (inOne rfl) (inOne rfl) rfl) ?_
            all_goals refine awpOps_cons (op_stm ty29_WrldS rfl rfl rfl) ?_
            all_goals refine awpOps_nil ?_
            refine awp_ret ?_
            repeat first | refine rt_seq ?_ | refine rt_block ?_
            refine ⟨_, _, res1C (ol := so (sendF w e.vote)) ty29_WrldS rfl rfl (inOne rfl) (olk (congrArg (fun z : List Nod => Wt.Obj.arr (List.map sN z)) (send_nodes w e.vote).symm) obOkNs oln) (hS_sub rfl), ?_, ?_⟩ <;> rw [doF, if_neg k1, if_neg k2, if_neg k3, if_pos k4, h5, if_pos rfl]
          · refine awp_skip ?_
            repeat first | refine nx_seq ?_ | refine nx_block ?_
            all_goals refine awp_seq (awp_region (id := 11) ?_)
            all_goals refine awpOps_cons (op_ldm ty29_WrldS rfl rfl rfl) ?_
            all_goals refine awpOps_cons (op_stm ty29_WrldS rfl rfl rfl) ?_
            all_goals refine awpOps_nil ?_
            refine awp_ret ?_
            repeat first | refine rt_seq ?_ | refine rt_block ?_
            refine ⟨_, _, res1C (ol := so w) ty29_WrldS rfl rfl (inOne rfl) (olk rfl obOkNs oln) (hS_sub rfl), ?_, ?_⟩ <;> rw [doF, if_neg k1, if_neg k2, if_neg k3, if_pos k4, h5, if_neg (by decide)]
        · have k4 : ¬ e.kind = 4 := by simpa using h4
          refine awp_skip ?_
          repeat first | refine nx_seq ?_ | refine nx_block ?_
          all_goals refine awp_seq (awp_region (id := 11) ?_)
          all_goals refine awpOps_cons (op_ldm ty29_WrldS rfl rfl rfl) ?_
          all_goals refine awpOps_cons (op_stm ty29_WrldS rfl rfl rfl) ?_
          all_goals refine awpOps_nil ?_
          refine awp_ret ?_
          repeat first | refine rt_seq ?_ | refine rt_block ?_
          refine ⟨_, _, res1C (ol := so w) ty29_WrldS rfl rfl (inOne rfl) (olk rfl obOkNs oln) (hS_sub rfl), ?_, ?_⟩ <;> rw [doF, if_neg k1, if_neg k2, if_neg k3, if_neg k4]
theorem sWorldNew_w (bad : Int) (hb : within bad 0 4 = true) : Ct Tryz.prog 57 [.v bad] noObj (fun r1 h1 => r1 = .tup [.v (sW (newW bad)), .v true] ∧ h1 = obs (so (newW bad))) :=
  Ct.obs (sWorldNew_ct bad hb) fun G w ho o => by
    have h1 := ho 1
    have h1' : RelO G w 1 (.arr ([newC 1, newC 2, newC 3, newC 4] : List NodC)) := h1
    by_cases e : o = 1
    · subst e; exact arr_s h1'
    · have := ho o
      simpa [obs, lk0, e, orr] using this
end Go.Proofs.YtmdhfalfppkpeaaGreat

/- What is drawn. -/
set_option linter.unusedVariables false
set_option linter.unusedSimpArgs false
namespace Go.Wt
open Go
def mixV (b : List UInt8) (k : Int) : Int :=
  ((b.getD (k.tmod b.length).toNat 0).toNat : Int) * 131 + ((b.getD ((k * 7 + 3).tmod b.length).toNat 0).toNat : Int) * 1117 + k * 29 + IntKind.i64.wrap (k.tdiv b.length) * 53
/-- A number below `n`. -/
def pickV (b : List UInt8) (k n : Int) : Int :=
  if (decide (n < 1) || decide ((b.length : Int) = 0)) = true then 0
  else if decide (k < (b.length : Int)) = true then ((b.getD k.toNat 0).toNat : Int).tmod n
  else (xor64 (mixV b k) (IntKind.i64.wrap ((mixV b k).tdiv 64))).tmod n
theorem tdiv_bd {m n : Int} (h : 0 ≤ m) (hn : 0 < n) : 0 ≤ m.tdiv n ∧ m.tdiv n ≤ m := by
  rw [Int.tdiv_eq_ediv_of_nonneg h]
  exact ⟨Int.ediv_nonneg h (by omega), Int.ediv_le_self _ h⟩
theorem getD_get {b : List UInt8} {i : Int} (h0 : 0 ≤ i) (h : i < b.length) : b[i.toNat]? = some (b.getD i.toNat 0) := by
  rw [List.getElem?_eq_getElem (show i.toNat < b.length by omega), List.getD_eq_getElem?_getD, List.getElem?_eq_getElem (show i.toNat < b.length by omega)]; rfl
theorem tmod_bd {m n : Int} (h : 0 ≤ m) (hn : 0 < n) : 0 ≤ m.tmod n ∧ m.tmod n < n := ⟨Int.tmod_nonneg n h, Int.tmod_lt_of_pos m hn⟩
theorem u8_bd (x : UInt8) : (0 : Int) ≤ (x.toNat : Int) ∧ (x.toNat : Int) ≤ 255 := ⟨by omega, by have := x.toNat_lt; omega⟩
theorem mixV_bd {b : List UInt8} {k : Int} (h : 0 ≤ k ∧ k ≤ 1000000) (hb : 0 < b.length) : 0 ≤ mixV b k ∧ mixV b k ≤ 100000000 := by
  have h1 := u8_bd (b.getD (k.tmod b.length).toNat 0)
  have h2 := u8_bd (b.getD ((k * 7 + 3).tmod b.length).toNat 0)
  have h3 := tdiv_bd h.1 (show (0 : Int) < b.length by omega)
  have h4 : IntKind.i64.wrap (k.tdiv b.length) = k.tdiv b.length := wrap_in (by omega)
  unfold mixV
  rw [h4]
  omega
theorem xor64_bd {m n : Int} (h1 : 0 ≤ m ∧ m ≤ 1000000000) (h2 : 0 ≤ n ∧ n ≤ 1000000000) : 0 ≤ xor64 m n := by
  unfold xor64
  obtain ⟨a, rfl⟩ := Int.eq_ofNat_of_zero_le h1.1
  obtain ⟨c, rfl⟩ := Int.eq_ofNat_of_zero_le h2.1
  have e : (BitVec.ofInt 64 (a : Int) ^^^ BitVec.ofInt 64 (c : Int)).toNat = a ^^^ c := by
    have ha : a < 2 ^ 64 := by omega
    have hc : c < 2 ^ 64 := by omega
    rw [BitVec.toNat_xor]
    simp only [BitVec.ofInt_natCast, BitVec.toNat_ofNat, Nat.mod_eq_of_lt ha, Nat.mod_eq_of_lt hc]
  have hx : a ^^^ c < 2 ^ 62 := Nat.xor_lt_two_pow (by omega) (by omega)
  rw [e, wrap_in (by omega)]
  omega
theorem pickV_bd {b : List UInt8} {k n : Int} (h : 0 ≤ k ∧ k ≤ 1000000) : 0 ≤ pickV b k n ∧ (1 ≤ n → pickV b k n < n) := by
  unfold pickV
  split
  · exact ⟨by omega, fun h => by omega⟩
  · rename_i hh
    simp only [Bool.or_eq_true, decide_eq_true_eq, not_or] at hh
    have hb : 0 < b.length := by omega
    split
    · have := tmod_bd (u8_bd (b.getD k.toNat 0)).1 (show 0 < n by omega)
      exact ⟨this.1, fun _ => this.2⟩
    · have hm := mixV_bd h hb
      have h3 := tdiv_bd hm.1 (show (0 : Int) < 64 by omega)
      have h4 : IntKind.i64.wrap ((mixV b k).tdiv 64) = (mixV b k).tdiv 64 := wrap_in (by omega)
      rw [h4]
      have := tmod_bd (xor64_bd (m := mixV b k) (n := (mixV b k).tdiv 64) (by omega) (by omega)) (show 0 < n by omega)
      exact ⟨this.1, fun _ => this.2⟩
def nx (r : Rd) (c : Int) : Rd := ⟨r.b, r.p + c⟩
theorem nx_nx (r : Rd) (c d : Int) : nx (nx r c) d = nx r (c + d) := by simp [nx, Int.add_assoc]
def pk (r : Rd) (n : Int) : Int := pickV r.b r.p n
/-- The reader has not gone too far. -/
def Far (m : Int) (r : Rd) : Prop := 0 ≤ r.p ∧ r.p ≤ m
theorem Far.nx {m c m' : Int} {r : Rd} (h : Far m r) (hc : 0 ≤ c) (hm : m + c ≤ m') : Far m' (nx r c) := by
  unfold Far Go.Wt.nx at *; simp only; omega
theorem Far.weak {m m' : Int} {r : Rd} (h : Far m r) (hm : m ≤ m') : Far m' r := by unfold Far at *; omega
theorem pk_bd {m : Int} {r : Rd} (h : Far m r) (hm : m ≤ 1000000) (n : Int) : 0 ≤ pk r n ∧ (1 ≤ n → pk r n < n) := pickV_bd (by unfold Far at h; omega)
def payV (r : Rd) : Pay := ⟨1 + pk r 3, (1 + pk r 3 + pk (nx r 1) 2).tmod 3 + 1, 1 + pk (nx r 2) 9⟩
def chStep (s : Int × List Itm × Rd) : Int × List Itm × Rd :=
  (s.1 + 1 + IntKind.i64.wrap ((pk s.2.2 6).tdiv 5) * pk (nx s.2.2 1) 3, s.2.1 ++ [⟨s.1 + 1 + IntKind.i64.wrap ((pk s.2.2 6).tdiv 5) * pk (nx s.2.2 1) 3, payV (nx s.2.2 2)⟩], nx s.2.2 5)
def chIter (r : Rd) : Nat → Int × List Itm × Rd
  | 0 => (0, [], nx r 1)
  | n + 1 => chStep (chIter r n)
def chainV (r : Rd) : List Itm := (chIter r (pk r 7).toNat).2.1
def chainR (r : Rd) : Rd := (chIter r (pk r 7).toNat).2.2
theorem chIter_r (r : Rd) : ∀ n : Nat, (chIter r n).2.2 = nx r (1 + 5 * n)
  | 0 => rfl
  | n + 1 => by
    simp only [chIter, chStep, chIter_r r n, nx_nx]
    first | (congr 1; omega) | congr 1
theorem chIter_len (r : Rd) : ∀ n : Nat, (chIter r n).2.1.length = n
  | 0 => rfl
  | n + 1 => by simp [chIter, chStep, chIter_len r n]
theorem chIter_at {m : Int} {r : Rd} (h : Far m r) (hm : m + 1000 ≤ 1000000) : ∀ n : Nat, n ≤ 100 → 0 ≤ (chIter r n).1 ∧ (chIter r n).1 ≤ 4 * n
  | 0, _ => by simp [chIter]
  | n + 1, hn => by
    have ih := chIter_at h hm n (by omega)
    have hf : Far (m + 1 + 5 * n) (nx r (1 + 5 * (n : Int))) := h.nx (by omega) (by omega)
    have h1 := pk_bd hf (by omega) 6
    have h2 := pk_bd (hf.nx (c := 1) (m' := m + 2 + 5 * n) (by omega) (by omega)) (by omega) 3
    have h3 : (pk (nx r (1 + 5 * (n : Int))) 6).tdiv 5 = 0 ∨ (pk (nx r (1 + 5 * (n : Int))) 6).tdiv 5 = 1 := by
      rw [Int.tdiv_eq_ediv_of_nonneg h1.1]
      have := h1.2 (by omega)
      omega
    simp only [chIter, chStep, chIter_r]
    rcases h3 with h3 | h3
    · rw [h3, wrap_in (by omega)]; omega
    · rw [h3, wrap_in (by omega)]
      have := h2.2 (by omega)
      omega
theorem chainV_len {m : Int} {r : Rd} (h : Far m r) (hm : m ≤ 1000000) : (chainV r).length ≤ 6 := by
  unfold chainV
  rw [chIter_len]
  have := pk_bd h hm 7
  have := this.2 (by omega)
  omega
theorem chainR_eq {r : Rd} : chainR r = nx r (1 + 5 * ((pk r 7).toNat : Int)) := chIter_r r _
theorem chainR_far {m : Int} {r : Rd} (h : Far m r) (hm : m ≤ 1000000) : Far (m + 31) (chainR r) := by
  rw [chainR_eq]
  have := pk_bd h hm 7
  have := this.2 (by omega)
  exact h.nx (by omega) (by omega)
/-- What comes first ends in one of many states. -/
theorem awp_seq_ex {P : Program} {S : Nat → Prop} {st : St} {ι : Type} {x y : Code} {Q : Exit → St → Prop} (s' : ι → St) (Φ : ι → Prop) (h1 : awp P S x (athen (fun s => ∃ i, Φ i ∧ Le S s (s' i)) Q) st) (h2 : ∀ i, Φ i → awp P S y Q (s' i)) : awp P S (.seq x y) Q st :=
  awp_seq (awp_mono h1 fun e s q => by
    cases e with
    | normal => obtain ⟨i, q1, q2⟩ := q; exact awp_le q2 (h2 i q1)
    | exit id => exact q
    | goto l => exact q
    | ret => exact q
    | panic ch => exact q
    | outgrown => exact q)
theorem awp_to_ex {P : Program} {S : Nat → Prop} {st : St} {ι : Type} {x y : Code} {Q Q' : Exit → St → Prop} (s' : ι → St) (Φ : ι → Prop) (h1 : awp P S x (athen (fun s => ∃ i, Φ i ∧ Le S s (s' i)) Q) st) (h2 : ∀ i, Φ i → awp P S y Q' (s' i)) : awp P S x (athen (awp P S y Q') Q) st :=
  awp_mono h1 fun e s q => by
    cases e with
    | normal => obtain ⟨i, q1, q2⟩ := q; exact awp_le q2 (h2 i q1)
    | exit id => exact q
    | goto l => exact q
    | ret => exact q
    | panic ch => exact q
    | outgrown => exact q
/-- A call whose result isn't known in full. -/
theorem awpOps_callE {P : Program} {S : Nat → Prop} {ops : Array Oper} {st : St} {d : Nat} {T pos aft} {x : Operand} {f : FuncId} {xs : List Operand} {av : List AV} {ts : Array TypeId} {rt : List Nat} {l : List Oper} {Q : St → Prop} {ι : Type} (ol : List (Nat × Obj)) (fr : ι → AV) (g : ι → List (Nat × Obj)) (Φ : ι → Prop) {R : AV → (Nat → Obj) → Prop}
    (hfun : st.ev x = some (.fn f [] [])) (hB : fnB P f = true) (ha : Args st 0 xs av rt) (hct : Ct P f av (obs ol) R) (hR : ∀ r h', R r h' → ∃ i, r = fr i ∧ h' = obs (g i) ∧ Φ i) (hol : OLs st ol) (hok : OKs (keys ol) ol)
    (hdis : ∀ z ∈ av, z.dis = z ∧ ∀ o ∈ z.refs, keys ol o = true) (hn : Nat.blt d st.n = true) (hke : ∀ i, keysEq ol (g i) = true) (hok' : ∀ i, OKs (keys ol) (g i)) (hrr : ∀ i, ∀ o ∈ (fr i).refs, keys ol o = true)
    (hk : ∀ i, Φ i → awpOps P S ops l Q (st.upd [(d, some (fr i))] (g i))) :
    awpOps P S ops (⟨some d, .call { callee := .value x, args := xs.toArray, argTypes := ts }, T, pos, aft, none⟩ :: l) Q st :=
  awpOps_callO (fa := []) (fc := []) ol hfun hB ha (by simpa [avs] using hct) hol hok (by simpa [avs] using hdis) hn fun r h' hr => by
    obtain ⟨i, rfl, rfl, hi⟩ := hR r h' hr
    have hkk := keysEq_keys (hke i)
    refine ⟨g i, rfl, fun o ho => (by rw [← hkk]; exact ho), fun o ho h1 => (by rw [← hkk] at ho; rw [ho] at h1; cases h1), ?_, fun o ho => (by rw [← hkk]; exact hrr i o ho), hk i hi⟩
    rw [← hkk]; exact hok' i
theorem awp_toB_ex {P : Program} {S : Nat → Prop} {st : St} {id : Nat} {ι : Type} {x y : Code} {Q Q' : Exit → St → Prop} (s' : ι → St) (Φ : ι → Prop) (h1 : awp P S x (ablock id (athen (fun s => ∃ i, Φ i ∧ Le S s (s' i)) Q)) st) (h2 : ∀ i, Φ i → awp P S y Q' (s' i)) : awp P S x (ablock id (athen (awp P S y Q') Q)) st :=
  awp_mono h1 fun e s q => by
    cases e with
    | normal => obtain ⟨i, q1, q2⟩ := q; exact awp_le q2 (h2 i q1)
    | exit j =>
      simp only [ablock] at q ⊢
      split at q
      · rw [if_pos (by assumption)]; obtain ⟨i, q1, q2⟩ := q; exact awp_le q2 (h2 i q1)
      · rw [if_neg (by assumption)]; exact q
    | goto l => exact q
    | ret => exact q
    | panic ch => exact q
    | outgrown => exact q
section bools
variable {P : Program} {S : Nat → Prop} {ops : Array Oper} {st : St} {d : Nat} {T pos aft} {x y : Operand} {t t' : TypeId} {m n : Bool}
end bools
end Go.Wt

/- The reference: draws. -/
set_option linter.unusedVariables false
set_option linter.unusedSimpArgs false
namespace Go.Proofs.YtmdhfalfppkpeaaGreat
open Go Go.Wt
theorem l6Open_ct (code : List UInt8) : Ct Tryz.prog 52 [.v code] noObj (fun r1 h1 => r1 = .box 0 (IsLens.whole Rd) ∧ h1 = obs [(0, .cell (Rd.mk (code.take 2000) 0))]) := by
  refine Ct.intro Tryz.func52 rfl rfl ?_
  all_goals refine awp_seq (awp_region (id := 0) ?_)
  all_goals refine awpOps_cons (op_as rfl (Conv.of rfl) rfl) ?_
  all_goals refine awpOps_nil ?_
  all_goals refine awp_seq (awp_seq (awp_region (id := 1) ?_))
  all_goals refine awpOps_cons (op_mv rfl (Conv.of rfl) rfl) ?_
  all_goals refine awpOps_cons (op_len sl22 rfl rfl) ?_
  all_goals refine awpOps_cons (op_gtr rfl rfl rfl) ?_
  all_goals refine awpOps_nil ?_
  refine awp_cond rfl (fun h => ?_) (fun h => ?_)
  · all_goals refine awp_region (id := 2) ?_
    all_goals refine awpOps_cons (op_mv rfl (Conv.of rfl) rfl) ?_
    all_goals refine awpOps_cons (op_slh sl22 rfl rfl rfl ⟨by omega, by simp at h; omega⟩) ?_
    all_goals refine awpOps_cons (op_as rfl (Conv.of rfl) rfl) ?_
    all_goals refine awpOps_nil ?_
    all_goals refine awp_seq (awp_region (id := 3) ?_)
    all_goals refine awpOps_cons (op_mv rfl (Conv.of rfl) rfl) ?_
    all_goals refine awpOps_cons (op_build (.cons f126_0 rfl (Conv.of rfl) (.nil _)) z126 rfl pl126 rfl) ?_
    all_goals refine awpOps_cons (op_box (o := 0) ty126 rfl (Conv.of rfl) rfl rfl) ?_
    all_goals refine awpOps_cons (op_as rfl (Conv.of rfl) rfl) ?_
    all_goals refine awpOps_nil ?_
    refine awp_ret ?_
    repeat first | refine rt_seq ?_ | refine rt_block ?_
    exact ⟨_, _, res1E [(0, .cell (Rd.mk (code.take 2000) 0))] rfl rfl rfl (olk rfl obOk_cell oln) noS, rfl, rfl⟩
  · have e : code.take 2000 = code := take_end (by simp at h; omega)
    refine awp_skip ?_
    all_goals refine awp_seq (awp_region (id := 3) ?_)
    all_goals refine awpOps_cons (op_mv rfl (Conv.of rfl) rfl) ?_
    all_goals refine awpOps_cons (op_build (.cons f126_0 rfl (Conv.of rfl) (.nil _)) z126 rfl pl126 rfl) ?_
    all_goals refine awpOps_cons (op_box (o := 0) ty126 rfl (Conv.of rfl) rfl rfl) ?_
    all_goals refine awpOps_cons (op_as rfl (Conv.of rfl) rfl) ?_
    all_goals refine awpOps_nil ?_
    refine awp_ret ?_
    repeat first | refine rt_seq ?_ | refine rt_block ?_
    refine ⟨_, _, res1E [(0, .cell (Rd.mk code 0))] rfl rfl rfl (olk rfl obOk_cell oln) noS, rfl, ?_⟩
    rw [e]
set_option maxHeartbeats 1000000 in
theorem pick_ct (r : Rd) (n : Int) (hp : 0 ≤ r.p ∧ r.p ≤ 1000000) : CtO Tryz.prog 54 [.box 0 (IsLens.whole Rd), .v n] [(0, .cell r)] (.v (pk r n)) [(0, .cell (nx r 1))] := by
  refine Ct.intro Tryz.func54 rfl rfl ?_
  all_goals refine awp_seq (awp_region (id := 0) ?_)
  all_goals refine awpOps_cons (op_as rfl (Conv.of rfl) rfl) ?_
  all_goals refine awpOps_nil ?_
  all_goals refine awp_seq (awp_region (id := 1) ?_)
  all_goals refine awpOps_cons (op_mv rfl (Conv.of rfl) rfl) ?_
  all_goals refine awpOps_cons (op_mv rfl (Conv.of rfl) rfl) ?_
  all_goals refine awpOps_cons (op_nilc_box rfl rfl) ?_
  all_goals refine awpOps_cons (op_fab f126_1 rfl rfl) ?_
  all_goals refine awpOps_cons (op_ld ty3 rfl rfl rfl) ?_
  all_goals refine awpOps_cons (op_add rfl rfl rfl (by omega)) ?_
  all_goals refine awpOps_cons (op_nilc_box rfl rfl) ?_
  all_goals refine awpOps_cons (op_fab f126_1 rfl rfl) ?_
  all_goals refine awpOps_cons (op_st ty3 rfl rfl (Conv.of rfl) rfl) ?_
  all_goals refine awpOps_nil ?_
  refine awp_seq (awp_seq_to (s' := mkSt 99 [(0, .box 0 (IsLens.whole Rd)), (1, .v n), (24, .v (decide (n < 1) || decide ((r.b.length : Int) = 0)))] [(0, .cell (nx r 1))]) ?_ ?_)
  · all_goals refine awp_region (id := 2) ?_
    all_goals refine awpOps_cons (op_mv rfl (Conv.of rfl) rfl) ?_
    all_goals refine awpOps_cons (op_lss rfl rfl rfl) ?_
    all_goals refine awpOps_cons (op_mv rfl (Conv.of rfl) rfl) ?_
    all_goals refine g_split (t := 17) rfl (fun h => ?_) (fun h => ?_)
    all_goals first | refine awpOps_cons (g_off rfl rfl rfl rfl rfl) ?_ | refine awpOps_cons (g_on rfl rfl rfl (op_mv rfl (Conv.of rfl) rfl)) ?_
    all_goals first | refine awpOps_cons (g_off rfl rfl rfl rfl rfl) ?_ | refine awpOps_cons (g_on rfl rfl rfl (op_nilc_box rfl rfl)) ?_
    all_goals first | refine awpOps_cons (g_off rfl rfl rfl rfl rfl) ?_ | refine awpOps_cons (g_on rfl rfl rfl (op_fab f126_0 rfl rfl)) ?_
    all_goals first | refine awpOps_cons (g_off rfl rfl rfl rfl rfl) ?_ | refine awpOps_cons (g_on rfl rfl rfl (op_ld ty22 rfl rfl rfl)) ?_
    all_goals first | refine awpOps_cons (g_off rfl rfl rfl rfl rfl) ?_ | refine awpOps_cons (g_on rfl rfl rfl (op_len sl22 rfl rfl)) ?_
    all_goals first | refine awpOps_cons (g_off rfl rfl rfl rfl rfl) ?_ | refine awpOps_cons (g_on rfl rfl rfl (op_eql rfl rfl rfl)) ?_
    all_goals refine awpOps_cons (op_pick rfl rfl rfl rfl) ?_
    all_goals refine awpOps_nil ?_
    all_goals exact Le.mk rfl (tlb rfl rfl rfl (tle rfl (rfl) rfl (tle rfl (by (simp_all [nx]; try (rw [Bool.eq_iff_iff]; simp); try (intro hh; omega))) rfl tln))) (olk rfl (by exact obOk_cell) oln) (hS_sub (a := [(0, .cell r)]) rfl)
  refine awp_cond rfl (fun h => ?_) (fun h => ?_)
  · all_goals refine awp_seq (awp_region (id := 3) ?_)
    all_goals refine awpOps_cons (op_as rfl (Conv.of rfl) rfl) ?_
    all_goals refine awpOps_nil ?_
    refine awp_ret ?_
    repeat first | refine rt_seq ?_ | refine rt_block ?_
    refine finO1 [(0, .cell (nx r 1))] (.v rfl (Conv.of rfl)) (fun o ho => by cases ho) (olk rfl obOk_cell oln) (hS_keys rfl) ?_
    show AV.v _ = AV.v _
    unfold pk pickV
    rw [if_pos h]
  · have hb : r.b.length ≠ 0 := by
      simp only [Bool.or_eq_false_iff, decide_eq_false_iff_not] at h; omega
    have hn : n ≠ 0 := by
      simp only [Bool.or_eq_false_iff, decide_eq_false_iff_not] at h; omega
    refine awp_skip ?_
    refine awp_seq_to (s' := mkSt 99 [(0, .box 0 (IsLens.whole Rd)), (1, .v n), (5, .v r.p)] [(0, .cell (nx r 1))]) ?_ ?_
    · all_goals refine awp_region (id := 4) ?_
      all_goals refine awpOps_cons (op_mv rfl (Conv.of rfl) rfl) ?_
      all_goals refine awpOps_cons (op_nilc_box rfl rfl) ?_
      all_goals refine awpOps_cons (op_fab f126_1 rfl rfl) ?_
      all_goals refine awpOps_cons (op_ld ty3 rfl rfl rfl) ?_
      all_goals refine awpOps_cons (op_sub rfl rfl rfl (by (simp only [nx]; omega))) ?_
      all_goals refine awpOps_cons (op_as rfl (Conv.of rfl) rfl) ?_
      all_goals refine awpOps_nil ?_
      all_goals exact Le.mk rfl (tlb rfl rfl rfl (tle rfl (rfl) rfl (tle rfl (by (simp only [nx]; congr 1; omega)) rfl tln))) (olk rfl (by exact obOk_cell) oln) (hS_sub (a := [(0, .cell r)]) rfl)
    all_goals refine awp_seq (awp_seq (awp_region (id := 5) ?_))
    all_goals refine awpOps_cons (op_mv rfl (Conv.of rfl) rfl) ?_
    all_goals refine awpOps_cons (op_mv rfl (Conv.of rfl) rfl) ?_
    all_goals refine awpOps_cons (op_nilc_box rfl rfl) ?_
    all_goals refine awpOps_cons (op_fab f126_0 rfl rfl) ?_
    all_goals refine awpOps_cons (op_ld ty22 rfl rfl rfl) ?_
    all_goals refine awpOps_cons (op_len sl22 rfl rfl) ?_
    all_goals refine awpOps_cons (op_lss rfl rfl rfl) ?_
    all_goals refine awpOps_nil ?_
    refine awp_cond rfl (fun h2 => ?_) (fun h2 => ?_)
    · have hlt : r.p < r.b.length := of_decide_eq_true h2
      have hx := getD_get hp.1 hlt
      all_goals refine awp_seq (awp_region (id := 6) ?_)
      all_goals refine awpOps_cons (op_mv rfl (Conv.of rfl) rfl) ?_
      all_goals refine awpOps_cons (op_nilc_box rfl rfl) ?_
      all_goals refine awpOps_cons (op_fab f126_0 rfl rfl) ?_
      all_goals refine awpOps_cons (op_ld ty22 rfl rfl rfl) ?_
      all_goals refine awpOps_cons (op_mv rfl (Conv.of rfl) rfl) ?_
      all_goals refine awpOps_cons (op_ix sl22 rfl rfl rfl (by omega) hx) ?_
      all_goals refine awpOps_cons (op_ldr ty5 rfl rfl) ?_
      all_goals refine awpOps_cons (op_cvb rfl rfl us5 ui3) ?_
      all_goals refine awpOps_cons (op_mv rfl (Conv.of rfl) rfl) ?_
      all_goals refine awpOps_cons (op_rem rfl rfl rfl (by exact hn)) ?_
      all_goals refine awpOps_cons (op_as rfl (Conv.of rfl) rfl) ?_
      all_goals refine awpOps_nil ?_
      refine awp_ret ?_
      repeat first | refine rt_seq ?_ | refine rt_block ?_
      refine finO1 [(0, .cell (nx r 1))] (.v rfl (Conv.of rfl)) (fun o ho => by cases ho) (olk rfl obOk_cell oln) (hS_keys rfl) ?_
      show AV.v _ = AV.v _
      unfold pk pickV
      rw [if_neg (by rw [h]; decide), if_pos (by simpa using hlt)]
    · have hge : ¬ r.p < r.b.length := of_decide_eq_false h2
      have m1 := tmod_bd hp.1 (show (0 : Int) < (nx r 1).b.length by simp [nx]; omega)
      have m2 := tmod_bd (show 0 ≤ r.p * 7 + 3 by omega) (show (0 : Int) < (nx r 1).b.length by simp [nx]; omega)
      have hx1 := getD_get m1.1 m1.2
      have hx2 := getD_get m2.1 m2.2
      have b1 := u8_bd ((nx r 1).b.getD (r.p.tmod (nx r 1).b.length).toNat 0)
      have b2 := u8_bd ((nx r 1).b.getD ((r.p * 7 + 3).tmod (nx r 1).b.length).toNat 0)
      have h3 := tdiv_bd hp.1 (show (0 : Int) < (nx r 1).b.length by simp [nx]; omega)
      have h4 : IntKind.i64.wrap (r.p.tdiv (nx r 1).b.length) = r.p.tdiv (nx r 1).b.length := wrap_in (by omega)
      refine awp_skip ?_
      all_goals refine awp_seq (dr_start (id := 7) ?_)
      all_goals refine dr_cons (op_mv rfl (Conv.of rfl) rfl) ?_
      all_goals refine dr_cons (op_nilc_box rfl rfl) ?_
      all_goals refine dr_cons (op_fab f126_0 rfl rfl) ?_
      all_goals refine dr_cons (op_ld ty22 rfl rfl rfl) ?_
      all_goals refine dr_cons (op_mv rfl (Conv.of rfl) rfl) ?_
      all_goals refine dr_cons (op_mv rfl (Conv.of rfl) rfl) ?_
      all_goals refine dr_cons (op_nilc_box rfl rfl) ?_
      all_goals refine dr_cons (op_fab f126_0 rfl rfl) ?_
      all_goals refine dr_cons (op_ld ty22 rfl rfl rfl) ?_
      all_goals refine dr_cons (op_len sl22 rfl rfl) ?_
      all_goals refine dr_cons (op_rem rfl rfl rfl (by (show (r.b.length : Int) ≠ 0; omega))) ?_
      all_goals refine dr_cons (op_ix sl22 rfl rfl rfl (by omega) hx1) ?_
      all_goals refine dr_cons (op_ldr ty5 rfl rfl) ?_
      all_goals refine dr_cons (op_cvb rfl rfl us5 ui3) ?_
      all_goals refine dr_cons (op_mul rfl rfl rfl (by omega)) ?_
      all_goals refine dr_cons (op_mv rfl (Conv.of rfl) rfl) ?_
      all_goals refine dr_cons (op_nilc_box rfl rfl) ?_
      all_goals refine dr_cons (op_fab f126_0 rfl rfl) ?_
      all_goals refine dr_cons (op_ld ty22 rfl rfl rfl) ?_
      all_goals refine dr_cons (op_mv rfl (Conv.of rfl) rfl) ?_
      all_goals refine dr_cons (op_mul rfl rfl rfl (by omega)) ?_
      all_goals refine dr_cons (op_add rfl rfl rfl (by omega)) ?_
      all_goals refine dr_cons (op_mv rfl (Conv.of rfl) rfl) ?_
      all_goals refine dr_cons (op_nilc_box rfl rfl) ?_
      all_goals refine dr_cons (op_fab f126_0 rfl rfl) ?_
      all_goals refine dr_cons (op_ld ty22 rfl rfl rfl) ?_
      all_goals refine dr_cons (op_len sl22 rfl rfl) ?_
      all_goals refine dr_cons (op_rem rfl rfl rfl (by (show (r.b.length : Int) ≠ 0; omega))) ?_
      all_goals refine dr_cons (op_ix sl22 rfl rfl rfl (by omega) hx2) ?_
      all_goals refine dr_cons (op_ldr ty5 rfl rfl) ?_
      all_goals refine dr_cons (op_cvb rfl rfl us5 ui3) ?_
      all_goals refine dr_cons (op_mul rfl rfl rfl (by omega)) ?_
      all_goals refine dr_cons (op_add rfl rfl rfl (by omega)) ?_
      all_goals refine dr_cons (op_mv rfl (Conv.of rfl) rfl) ?_
      all_goals refine dr_cons (op_mul rfl rfl rfl (by omega)) ?_
      all_goals refine dr_cons (op_add rfl rfl rfl (by omega)) ?_
      all_goals refine dr_cons (op_mv rfl (Conv.of rfl) rfl) ?_
      all_goals refine dr_cons (op_mv rfl (Conv.of rfl) rfl) ?_
      all_goals refine dr_cons (op_nilc_box rfl rfl) ?_
      all_goals refine dr_cons (op_fab f126_0 rfl rfl) ?_
      all_goals refine dr_cons (op_ld ty22 rfl rfl rfl) ?_
      all_goals refine dr_cons (op_len sl22 rfl rfl) ?_
      all_goals refine dr_cons (op_quo rfl rfl rfl (by (show (r.b.length : Int) ≠ 0; omega))) ?_
      all_goals refine dr_cons (op_mul rfl rfl rfl (by (rw [h4]; omega))) ?_
      all_goals refine dr_cons (op_add rfl rfl rfl (by (rw [h4]; omega))) ?_
      all_goals refine dr_cons (op_as rfl (Conv.of rfl) rfl) ?_
      all_goals refine dr_nil mixed rfl ?_
      all_goals refine awp_seq (awp_region (id := 8) ?_)
      all_goals refine awpOps_cons (op_mv rfl (Conv.of rfl) rfl) ?_
      all_goals refine awpOps_cons (op_mv rfl (Conv.of rfl) rfl) ?_
      all_goals refine awpOps_cons (op_quo rfl rfl rfl (by decide)) ?_
      all_goals refine awpOps_cons (op_xor rfl rfl rfl) ?_
      all_goals refine awpOps_cons (op_as rfl (Conv.of rfl) rfl) ?_
      all_goals refine awpOps_nil ?_
      all_goals refine awp_seq (awp_region (id := 9) ?_)
      all_goals refine awpOps_cons (op_mv rfl (Conv.of rfl) rfl) ?_
      all_goals refine awpOps_cons (op_mv rfl (Conv.of rfl) rfl) ?_
      all_goals refine awpOps_cons (op_rem rfl rfl rfl (by exact hn)) ?_
      all_goals refine awpOps_cons (op_as rfl (Conv.of rfl) rfl) ?_
      all_goals refine awpOps_nil ?_
      refine awp_ret ?_
      repeat first | refine rt_seq ?_ | refine rt_block ?_
      refine finO1 [(0, .cell (nx r 1))] (.v rfl (Conv.of rfl)) (fun o ho => by cases ho) (olk rfl obOk_cell oln) (hS_keys rfl) ?_
      show AV.v _ = AV.v _
      unfold pk pickV mixV
      rw [if_neg (by rw [h]; decide), if_neg (by simpa using hge)]
      rfl
end Go.Proofs.YtmdhfalfppkpeaaGreat

/- The reference: draws of payments and chains. -/
set_option linter.unusedVariables false
set_option linter.unusedSimpArgs false
namespace Go.Proofs.YtmdhfalfppkpeaaGreat
open Go Go.Wt
theorem l71Pay_ct (r : Rd) (hp : Far 900000 r) : CtO Tryz.prog 87 [.box 0 (IsLens.whole Rd)] [(0, .cell r)] (.v (payV r)) [(0, .cell (nx r 3))] := by
  have hp1 : Far 900001 (nx r 1) := hp.nx (by omega) (by omega)
  have hp2 : Far 900002 (nx (nx r 1) 1) := hp1.nx (by omega) (by omega)
  have b0 := pk_bd hp (by omega) 3
  have b1 := pk_bd hp1 (by omega) 2
  have b2 := pk_bd hp2 (by omega) 9
  have c0 := b0.2 (by omega)
  have c1 := b1.2 (by omega)
  have c2 := b2.2 (by omega)
  have m1 := tmod_bd (show 0 ≤ 1 + pk r 3 + pk (nx r 1) 2 by omega) (show (0 : Int) < 3 by omega)
  refine Ct.intro Tryz.func87 rfl rfl ?_
  all_goals refine awp_seq (awp_region (id := 0) ?_)
  all_goals refine awpOps_cons (op_alloc (o := 2) z58 rfl rfl) ?_
  all_goals refine awpOps_nil ?_
  all_goals refine awp_seq (awp_region (id := 1) ?_)
  all_goals refine awpOps_cons (op_mv rfl (Conv.of rfl) rfl) ?_
  all_goals refine awpOps_cons (op_callO fb54 (.cons rfl (Conv.of rfl) (.cons rfl (Conv.of rfl) (.nil _))) (pick_ct r 3 (by unfold Far at hp; omega)) (olsk rfl ols0) (oksk (by exact obOk_cell) oks0) (oksk (by exact obOk_cell) oks0) rfl (argOb rfl rfl rfl (argOk' rfl rfl argO0)) (fun o ho => by cases ho) rfl) ?_
  all_goals refine awpOps_cons (op_add rfl rfl rfl (by omega)) ?_
  all_goals refine awpOps_cons (op_as rfl (Conv.of rfl) rfl) ?_
  all_goals refine awpOps_nil ?_
  all_goals refine awp_seq (awp_region (id := 2) ?_)
  all_goals refine awpOps_cons (op_mv rfl (Conv.of rfl) rfl) ?_
  all_goals refine awpOps_cons (op_mv rfl (Conv.of rfl) rfl) ?_
  all_goals refine awpOps_cons (op_mv rfl (Conv.of rfl) rfl) ?_
  all_goals refine awpOps_cons (op_callO fb54 (.cons rfl (Conv.of rfl) (.cons rfl (Conv.of rfl) (.nil _))) (pick_ct (nx r 1) 2 (by unfold Far at hp1; omega)) (olsk rfl ols0) (oksk (by exact obOk_cell) oks0) (oksk (by exact obOk_cell) oks0) rfl (argOb rfl rfl rfl (argOk' rfl rfl argO0)) (fun o ho => by cases ho) rfl) ?_
  all_goals refine awpOps_cons (op_add rfl rfl rfl (by omega)) ?_
  all_goals refine awpOps_cons (op_rem rfl rfl rfl (by decide)) ?_
  all_goals refine awpOps_cons (op_add rfl rfl rfl (by omega)) ?_
  all_goals refine awpOps_cons (op_mv rfl (Conv.of rfl) rfl) ?_
  all_goals refine awpOps_cons (op_callO fb54 (.cons rfl (Conv.of rfl) (.cons rfl (Conv.of rfl) (.nil _))) (pick_ct (nx (nx r 1) 1) 9 (by unfold Far at hp2; omega)) (olsk rfl ols0) (oksk (by exact obOk_cell) oks0) (oksk (by exact obOk_cell) oks0) rfl (argOb rfl rfl rfl (argOk' rfl rfl argO0)) (fun o ho => by cases ho) rfl) ?_
  all_goals refine awpOps_cons (op_add rfl rfl rfl (by omega)) ?_
  all_goals refine awpOps_cons (op_build (.cons f58_0 rfl (Conv.of rfl) (.cons f58_1 rfl (Conv.of rfl) (.cons f58_2 rfl (Conv.of rfl) (.nil _)))) z58 rfl pl58 rfl) ?_
  all_goals refine awpOps_cons (op_st ty58 rfl rfl (Conv.of rfl) rfl) ?_
  all_goals refine awpOps_nil ?_
  refine awp_ret ?_
  repeat first | refine rt_seq ?_ | refine rt_block ?_
  refine finO1 [(0, .cell (nx r 3))] (.rc ty58 rfl rfl) (fun o ho => by cases ho) (olk (by show Wt.Obj.cell _ = Wt.Obj.cell _; rw [nx_nx, nx_nx]; rfl) obOk_cell oln) (hS_keys rfl) ?_
  show AV.v _ = AV.v _
  unfold payV
  rw [nx_nx]; rfl
set_option maxHeartbeats 1000000 in
theorem l71Chain_ct (r : Rd) (hp : Far 800000 r) : CtO Tryz.prog 170 [.box 0 (IsLens.whole Rd)] [(0, .cell r)] (.v (chainV r)) [(0, .cell (chainR r))] := by
  have b0 := pk_bd hp (by omega) 7
  have c0 := b0.2 (by omega)
  refine Ct.intro Tryz.func170 rfl rfl ?_
  all_goals refine awp_seq (awp_region (id := 0) ?_)
  all_goals refine awpOps_cons (op_as rfl (Conv.of rfl) rfl) ?_
  all_goals refine awpOps_nil ?_
  all_goals refine awp_seq (awp_region (id := 1) ?_)
  all_goals refine awpOps_cons (op_bsl sl34 z60 (.nil _) rfl (by decide) rfl) ?_
  all_goals refine awpOps_cons (op_asl rfl rfl rfl rfl) ?_
  all_goals refine awpOps_nil ?_
  all_goals refine awp_seq (awp_region (id := 2) ?_)
  all_goals refine awpOps_cons (op_as rfl (Conv.of rfl) rfl) ?_
  all_goals refine awpOps_nil ?_
  all_goals refine awp_seq (awp_seq (awp_region (id := 3) ?_))
  all_goals refine awpOps_cons (op_mv rfl (Conv.of rfl) rfl) ?_
  all_goals refine awpOps_cons (op_callO fb54 (.cons rfl (Conv.of rfl) (.cons rfl (Conv.of rfl) (.nil _))) (pick_ct r 7 (by unfold Far at hp; omega)) (olsk rfl ols0) (oksk (by exact obOk_cell) oks0) (oksk (by exact obOk_cell) oks0) rfl (argOb rfl rfl rfl (argOk' rfl rfl argO0)) (fun o ho => by cases ho) rfl) ?_
  all_goals refine awpOps_cons (op_as rfl (Conv.of rfl) rfl) ?_
  all_goals refine awpOps_nil ?_
  refine awp_block ?_
  refine awp_loop' (fun n_ s => ∃ (k : Nat), ∃ (hk : n_ + k = (pk r 7).toNat), s = mkSt 30 [(0, .box 0 (IsLens.whole Rd)), (3, .v (OList.mk (chIter r k).2.1 true)), (4, .v (chIter r k).1), (5, .v (pk r 7 - (k : Int)))] [(0, .cell (chIter r k).2.2)]) ((pk r 7).toNat) ⟨0, by omega, rfl⟩ (Le.mk rfl (tlb rfl rfl rfl (tle rfl (by rfl) rfl (tle rfl (by rfl) rfl (tle rfl (by (show AV.v _ = AV.v _; congr 1; omega)) rfl tln)))) (olk (by rfl) (by exact obOk_cell) oln) (hS_sub (a := [(0, .cell r)]) rfl)) ?_
  rintro n_ s ⟨k, hk, rfl⟩
  have hk6 : k ≤ 6 := by omega
  have hat := chIter_at hp (by omega) k (by omega)
  have hf0 : Far 800500 (chIter r k).2.2 := by rw [chIter_r]; exact hp.nx (by omega) (by omega)
  have hln := chIter_len r k
  all_goals refine awp_seq (awp_seq (awp_region (id := 4) ?_))
  all_goals refine awpOps_cons (op_mv rfl (Conv.of rfl) rfl) ?_
  all_goals refine awpOps_cons (op_gtr rfl rfl rfl) ?_
  all_goals refine awpOps_nil ?_
  refine awp_cond rfl (fun h => ?_) (fun h => ?_)
  · have hlt : (k : Int) < pk r 7 := by have := of_decide_eq_true h; omega
    generalize hs : chIter r k = s at hat hf0 hln
    have hf1 : Far 800501 (nx s.2.2 1) := hf0.nx (by omega) (by omega)
    have hf2 : Far 800502 (nx (nx s.2.2 1) 1) := hf1.nx (by omega) (by omega)
    have d0 := pk_bd hf0 (by omega) 6
    have d1 := pk_bd hf1 (by omega) 3
    have e0 := d0.2 (by omega)
    have e1 := d1.2 (by omega)
    have hq : IntKind.i64.wrap ((pk s.2.2 6).tdiv 5) = 0 ∨ IntKind.i64.wrap ((pk s.2.2 6).tdiv 5) = 1 := by
      have : (pk s.2.2 6).tdiv 5 = 0 ∨ (pk s.2.2 6).tdiv 5 = 1 := by
        rw [Int.tdiv_eq_ediv_of_nonneg d0.1]; omega
      rw [wrap_in (by omega)]; exact this
    have hm : 0 ≤ IntKind.i64.wrap ((pk s.2.2 6).tdiv 5) * pk (nx s.2.2 1) 3 ∧ IntKind.i64.wrap ((pk s.2.2 6).tdiv 5) * pk (nx s.2.2 1) 3 ≤ 2 := by
      rcases hq with hq | hq <;> rw [hq] <;> omega
    refine awp_skip ?_
    refine awp_seq (awp_block ?_)
    all_goals refine awp_seq (awp_region (id := 6) ?_)
    all_goals refine awpOps_cons (op_mv rfl (Conv.of rfl) rfl) ?_
    all_goals refine awpOps_cons (op_add rfl rfl rfl (by omega)) ?_
    all_goals refine awpOps_cons (op_mv rfl (Conv.of rfl) rfl) ?_
    all_goals refine awpOps_cons (op_callO fb54 (.cons rfl (Conv.of rfl) (.cons rfl (Conv.of rfl) (.nil _))) (pick_ct s.2.2 6 (by unfold Far at hf0; omega)) (olsk rfl ols0) (oksk (by exact obOk_cell) oks0) (oksk (by exact obOk_cell) oks0) rfl (argOb rfl rfl rfl (argOk' rfl rfl argO0)) (fun o ho => by cases ho) rfl) ?_
    all_goals refine awpOps_cons (op_quo rfl rfl rfl (by decide)) ?_
    all_goals refine awpOps_cons (op_mv rfl (Conv.of rfl) rfl) ?_
    all_goals refine awpOps_cons (op_callO fb54 (.cons rfl (Conv.of rfl) (.cons rfl (Conv.of rfl) (.nil _))) (pick_ct (nx s.2.2 1) 3 (by unfold Far at hf1; omega)) (olsk rfl ols0) (oksk (by exact obOk_cell) oks0) (oksk (by exact obOk_cell) oks0) rfl (argOb rfl rfl rfl (argOk' rfl rfl argO0)) (fun o ho => by cases ho) rfl) ?_
    all_goals refine awpOps_cons (op_mul rfl rfl rfl (by omega)) ?_
    all_goals refine awpOps_cons (op_add rfl rfl rfl (by omega)) ?_
    all_goals refine awpOps_cons (op_as rfl (Conv.of rfl) rfl) ?_
    all_goals refine awpOps_nil ?_
    all_goals refine awp_region (id := 7) ?_
    all_goals refine awpOps_cons (op_mvl rfl rfl rfl rfl) ?_
    all_goals refine awpOps_cons (op_mv rfl (Conv.of rfl) rfl) ?_
    all_goals refine awpOps_cons (op_mv rfl (Conv.of rfl) rfl) ?_
    all_goals refine awpOps_cons (op_callO fb87 (.cons rfl (Conv.of rfl) (.nil _)) (l71Pay_ct (nx (nx s.2.2 1) 1) (hf2.weak (by omega))) (olsk rfl ols0) (oksk (by exact obOk_cell) oks0) (oksk (by exact obOk_cell) oks0) rfl (argOb rfl rfl rfl argO0) (fun o ho => by cases ho) rfl) ?_
    all_goals refine awpOps_cons (op_build (.cons f60_0 rfl (Conv.of rfl) (.cons f60_1 rfl (Conv.of rfl) (.nil _))) z60 rfl pl60 rfl) ?_
    all_goals refine awpOps_cons (op_bsl sl34 z60 (.cons rfl (Conv.of rfl) (.nil _)) rfl (by decide) rfl) ?_
    all_goals refine awpOps_cons (op_app sl34 z60 ul34 rfl rfl rfl (by (simp; omega)) (by (simp; omega)) rfl rfl) ?_
    all_goals refine awpOps_cons (op_asl rfl rfl rfl rfl) ?_
    all_goals refine awpOps_nil ?_
    all_goals refine awp_region (id := 5) ?_
    all_goals refine awpOps_cons (op_mv rfl (Conv.of rfl) rfl) ?_
    all_goals refine awpOps_cons (op_sub rfl rfl rfl (by omega)) ?_
    all_goals refine awpOps_cons (op_as rfl (Conv.of rfl) rfl) ?_
    all_goals refine awpOps_nil ?_
    subst hs
    repeat first | refine nx_seq ?_ | refine nx_block ?_
    exact ⟨n_ - 1, _, by omega, ⟨k + 1, by omega, rfl⟩, Le.mk rfl (tlb rfl rfl rfl (tle rfl (by (show AV.v _ = AV.v _; simp only [chIter, chStep, nx_nx]; rfl)) rfl (tle rfl (by rfl) rfl (tle rfl (by (show AV.v _ = AV.v _; congr 1; omega)) rfl tln)))) (olk (by (show Wt.Obj.cell _ = Wt.Obj.cell _; simp only [chIter, chStep, nx_nx]; rfl)) (by exact obOk_cell) oln) (hS_sub (a := [(0, .cell r)]) rfl)⟩
  · refine awp_exit ?_
    repeat refine ex_seq ?_
    refine ex_block ?_
    have hge : pk r 7 - (k : Int) ≤ 0 := by have := of_decide_eq_false h; omega
    have hk' : k = (pk r 7).toNat := by omega
    all_goals refine awp_seq (awp_region (id := 8) ?_)
    all_goals refine awpOps_cons (op_mvl rfl rfl rfl rfl) ?_
    all_goals refine awpOps_cons (op_asl rfl rfl rfl rfl) ?_
    all_goals refine awpOps_nil ?_
    refine awp_ret ?_
    repeat first | refine rt_seq ?_ | refine rt_block ?_
    subst hk'
    exact finO1 [(0, .cell (chainR r))] (.v rfl Conv.ol) (fun o ho => by cases ho) (olk rfl obOk_cell oln) (hS_keys rfl) rfl
/-- What is drawn for a world. -/
abbrev ro (r : Rd) (w : Wrld) : List (Nat × Wt.Obj) := [(0, .cell r), (1, .arr (w.nodes.map sN))]
set_option maxHeartbeats 4000000 in
theorem l72Forge_ct (r : Rd) (w : Wrld) (hw : FineX w) (hp : Far 700000 r) : Ct Tryz.prog 154 [.box 0 (IsLens.whole Rd), .v (fW w)] (obs (ro r w)) (fun r1 h1 => ∃ (v : Vote) (r' : Rd), r1 = .v v ∧ h1 = obs (ro r' w) ∧ v.chain.length ≤ 100 ∧ r.p ≤ r'.p ∧ r'.p ≤ r.p + 100) := by
  have h4 := hw.four
  have hgl := hw.fine.log
  have hgll := hgl.len
  have hln : ((w.nodes.map sN).length : Int) = 4 := by simp [h4]
  refine Ct.intro Tryz.func154 rfl rfl ?_
  all_goals refine awp_seq (awp_region (id := 0) ?_)
  all_goals refine awpOps_cons (op_box (o := 5) ty29_WrldS rfl (Conv.of rfl) rfl rfl) ?_
  all_goals refine awpOps_cons (op_alloc (o := 6) z48 rfl rfl) ?_
  all_goals refine awpOps_nil ?_
  all_goals refine awp_seq (awp_region (id := 1) ?_)
  all_goals refine awpOps_cons (op_mv rfl (Conv.of rfl) rfl) ?_
  all_goals refine awpOps_cons (op_callO fb170 (.cons rfl (Conv.of rfl) (.nil _)) (l71Chain_ct r (hp.weak (by omega))) (olsk rfl ols0) (oksk (by exact obOk_cell) oks0) (oksk (by exact obOk_cell) oks0) rfl (argOb rfl rfl rfl argO0) (fun o ho => by cases ho) rfl) ?_
  all_goals refine awpOps_cons (op_as rfl (Conv.of rfl) rfl) ?_
  all_goals refine awpOps_nil ?_
  have hf1 := chainR_far hp (by omega)
  have hcl := chainV_len hp (by omega)
  have hr1 : r.p ≤ (chainR r).p ∧ (chainR r).p ≤ r.p + 31 := by
    have := (pk_bd hp (by omega) 7).2 (by omega)
    have := (pk_bd hp (by omega) 7).1
    rw [chainR_eq]; simp only [nx]; omega
  generalize chainR r = r1 at *
  generalize chainV r = c1 at *
  refine awp_seq_ex (ι := List Itm × Rd) (fun i => mkSt 54 [(0, .box 0 (IsLens.whole Rd)), (3, .box 5 (IsLens.whole WrldS)), (4, .box 6 (IsLens.whole Vote)), (5, .v i.1)] [(0, .cell i.2), (1, .arr (w.nodes.map sN)), (5, .cell (fW w)), (6, .cell Vote.zero)]) (fun i => i.1.length ≤ 50 ∧ r.p ≤ i.2.p ∧ i.2.p ≤ r.p + 40) ?_ ?_
  · have hk1 := pk_bd hf1 (by omega) 4
    all_goals refine awp_seq (awp_region (id := 2) ?_)
    all_goals refine awpOps_cons (op_fab f29_2_WrldS rfl rfl) ?_
    all_goals refine awpOps_cons (op_ldl ty27_OListVote rfl rfl rfl) ?_
    all_goals refine awpOps_cons (op_len sl27 rfl rfl) ?_
    all_goals refine awpOps_cons (op_gtr rfl rfl rfl) ?_
    all_goals refine awpOps_cons (op_mv rfl (Conv.of rfl) rfl) ?_
    all_goals refine g_split (t := 13) rfl (fun h => ?_) (fun h => ?_)
    all_goals first | refine awpOps_cons (g_off rfl rfl rfl rfl rfl) ?_ | refine awpOps_cons (g_on rfl rfl rfl (op_mv rfl (Conv.of rfl) rfl)) ?_
    all_goals first | refine awpOps_cons (g_off rfl rfl rfl rfl rfl) ?_ | refine awpOps_cons (g_on rfl rfl rfl (op_callO fb54 (.cons rfl (Conv.of rfl) (.cons rfl (Conv.of rfl) (.nil _))) (pick_ct r1 4 (by unfold Far at hf1; omega)) (olsk rfl ols0) (oksk (by exact obOk_cell) oks0) (oksk (by exact obOk_cell) oks0) rfl (argOb rfl rfl rfl (argOk' rfl rfl argO0)) (fun o ho => by cases ho) rfl)) ?_
    all_goals first | refine awpOps_cons (g_off rfl rfl rfl rfl rfl) ?_ | refine awpOps_cons (g_on rfl rfl rfl (op_gtr rfl rfl rfl)) ?_
    all_goals refine awpOps_cons (op_pick rfl rfl rfl rfl) ?_
    all_goals refine awpOps_nil ?_
    · refine awp_cond rfl (fun h2 => ?_) (fun h2 => ?_)
      · have hlg : 0 < w.log.length := by have := of_decide_eq_true h; simpa [fW] using this
        have hf2 : Far (700000 + 32) (nx r1 1) := hf1.nx (by omega) (by omega)
        have hk2 := pk_bd hf2 (by omega) (w.log.length : Int)
        have hk3 := hk2.2 (by omega)
        have hv : w.log[(pk (nx r1 1) (w.log.length : Int)).toNat]? = some (w.log[(pk (nx r1 1) (w.log.length : Int)).toNat]'(by omega)) := List.getElem?_eq_getElem (by omega)
        generalize hvv : w.log[(pk (nx r1 1) (w.log.length : Int)).toNat]'(by omega) = v at hv
        have hvo := hgl.ok v (List.mem_of_getElem? hv)
        have hvc := chainOk_len (voteOk_chain hvo)
        all_goals refine dr_start (id := 3) ?_
        all_goals refine dr_cons (op_fab f29_2_WrldS rfl rfl) ?_
        all_goals refine dr_cons (op_ldl ty27_OListVote rfl rfl rfl) ?_
        all_goals refine dr_cons (op_mv rfl (Conv.of rfl) rfl) ?_
        all_goals refine dr_cons (op_fab f29_2_WrldS rfl rfl) ?_
        all_goals refine dr_cons (op_ldl ty27_OListVote rfl rfl rfl) ?_
        all_goals refine dr_cons (op_len sl27 rfl rfl) ?_
        all_goals refine dr_cons (op_callO fb54 (.cons rfl (Conv.of rfl) (.cons rfl (Conv.of rfl) (.nil _))) (pick_ct (nx r1 1) (w.log.length : Int) (by unfold Far at hf2; omega)) (olsk rfl ols0) (oksk (by exact obOk_cell) oks0) (oksk (by exact obOk_cell) oks0) rfl (argOb rfl rfl rfl (argOk' rfl rfl argO0)) (fun o ho => by cases ho) rfl) ?_
        all_goals refine dr_cons (op_ix sl27 rfl rfl rfl hk2.1 hv) ?_
        all_goals refine dr_cons (op_far f48_1 rfl rfl) ?_
        all_goals refine dr_cons (op_ldr ty34 rfl rfl) ?_
        all_goals refine dr_cons (op_call fb100 (.cons rfl (Conv.of rfl) (.nil _)) (l1Copy_ct v.chain (by omega)) (argOk rfl rfl argOk0) rfl rfl) ?_
        all_goals refine dr_cons (op_asl rfl rfl rfl rfl) ?_
        all_goals refine dr_nil mixed rfl ?_
        exact nx_seq ⟨(v.chain, nx (nx r1 1) 1), ⟨by show v.chain.length ≤ 50; omega, by simp only [nx]; omega, by simp only [nx]; omega⟩, Le.mk rfl (tlb rfl rfl rfl (tlb rfl rfl rfl (tlb rfl rfl rfl (tlc rfl (Conv.ol) rfl tln)))) (olk rfl (by exact obOk_cell) (olk rfl (by exact obOkNs) (olk rfl (by exact obOkS rfl) (olk rfl (by exact obOk_cell) oln)))) (hS_sub (a := ro r w) rfl)⟩
      · refine awp_skip ?_
        exact nx_seq ⟨(c1, nx r1 1), ⟨by show c1.length ≤ 50; omega, by simp only [nx]; omega, by simp only [nx]; omega⟩, Le.mk rfl (tlb rfl rfl rfl (tlb rfl rfl rfl (tlb rfl rfl rfl (tle rfl (rfl) rfl tln)))) (olk rfl (by exact obOk_cell) (olk rfl (by exact obOkNs) (olk rfl (by exact obOkS rfl) (olk rfl (by exact obOk_cell) oln)))) (hS_sub (a := ro r w) rfl)⟩
    · refine awp_cond rfl (fun h2 => absurd h2 (by decide)) (fun h2 => ?_)
      refine awp_skip ?_
      exact nx_seq ⟨(c1, r1), ⟨by show c1.length ≤ 50; omega, hr1.1, by show r1.p ≤ r.p + 40; omega⟩, Le.mk rfl (tlb rfl rfl rfl (tlb rfl rfl rfl (tlb rfl rfl rfl (tle rfl (rfl) rfl tln)))) (olk rfl (by exact obOk_cell) (olk rfl (by exact obOkNs) (olk rfl (by exact obOkS rfl) (olk rfl (by exact obOk_cell) oln)))) (hS_sub (a := ro r w) rfl)⟩
  · rintro ⟨c2, r2⟩ ⟨g1, g2, g3⟩
    simp only at g1 g2 g3 ⊢
    have hf2 : Far (700000 + 40) r2 := by unfold Far at hp ⊢; omega
    refine awp_seq_ex (ι := List Itm × Rd) (fun i => mkSt 54 [(0, .box 0 (IsLens.whole Rd)), (3, .box 5 (IsLens.whole WrldS)), (4, .box 6 (IsLens.whole Vote)), (5, .v i.1)] [(0, .cell i.2), (1, .arr (w.nodes.map sN)), (5, .cell (fW w)), (6, .cell Vote.zero)]) (fun i => i.1.length ≤ 60 ∧ r.p ≤ i.2.p ∧ i.2.p ≤ r.p + 50) ?_ ?_
    · all_goals refine awp_seq (awp_region (id := 4) ?_)
      all_goals refine awpOps_cons (op_mv rfl (Conv.of rfl) rfl) ?_
      all_goals refine awpOps_cons (op_callO fb54 (.cons rfl (Conv.of rfl) (.cons rfl (Conv.of rfl) (.nil _))) (pick_ct r2 2 (by unfold Far at hf2; omega)) (olsk rfl ols0) (oksk (by exact obOk_cell) oks0) (oksk (by exact obOk_cell) oks0) rfl (argOb rfl rfl rfl (argOk' rfl rfl argO0)) (fun o ho => by cases ho) rfl) ?_
      all_goals refine awpOps_cons (op_eql rfl rfl rfl) ?_
      all_goals refine awpOps_nil ?_
      refine awp_cond rfl (fun h2 => ?_) (fun h2 => ?_)
      · have hf3 : Far (700000 + 41) (nx r2 1) := hf2.nx (by omega) (by omega)
        have hf4 : Far (700000 + 42) (nx (nx r2 1) 1) := hf3.nx (by omega) (by omega)
        have hk2 := pk_bd hf3 (by omega) 4
        have hk3 := hk2.2 (by omega)
        have hlt : (pk (nx r2 1) 4).toNat < w.nodes.length := by omega
        have hx : w.nodes[(pk (nx r2 1) 4).toNat]? = some w.nodes[(pk (nx r2 1) 4).toNat] := List.getElem?_eq_getElem hlt
        generalize hnn : w.nodes[(pk (nx r2 1) 4).toNat] = n at hx
        have hx' : (w.nodes.map sN)[(pk (nx r2 1) 4).toNat]? = some (sN n) := by rw [List.getElem?_map, hx]; rfl
        have hgd := hw.fine.seen n (List.mem_of_getElem? hx)
        have htip := hgd.tipS
        all_goals refine awp_seq (dr_start (id := 5) ?_)
        all_goals refine dr_cons (op_fab f29_1_WrldS rfl rfl) ?_
        all_goals refine dr_cons (op_ld ty26_NRef rfl rfl rfl) ?_
        all_goals refine dr_cons (op_mv rfl (Conv.of rfl) rfl) ?_
        all_goals refine dr_cons (op_callO fb54 (.cons rfl (Conv.of rfl) (.cons rfl (Conv.of rfl) (.nil _))) (pick_ct (nx r2 1) 4 (by unfold Far at hf3; omega)) (olsk rfl ols0) (oksk (by exact obOk_cell) oks0) (oksk (by exact obOk_cell) oks0) rfl (argOb rfl rfl rfl (argOk' rfl rfl argO0)) (fun o ho => by cases ho) rfl) ?_
        all_goals refine dr_cons (op_ixA sl26_NodS rfl rfl rfl rfl ⟨hk2.1, by omega⟩) ?_
        all_goals refine dr_cons (op_ldde ty41_NodS rfl rfl hx' rfl) ?_
        all_goals refine dr_cons (op_alloc (o := 7) z41_NodS rfl rfl) ?_
        all_goals refine dr_cons (op_st ty41_NodS rfl rfl (Conv.of rfl) rfl) ?_
        all_goals refine dr_nil mixed rfl ?_
        all_goals refine dr_start (id := 6) ?_
        all_goals refine dr_cons (op_fab f41_3_NodS rfl rfl) ?_
        all_goals refine dr_cons (op_ldl ty27_OListVote rfl rfl rfl) ?_
        all_goals refine dr_cons (op_call fb101 (.cons rfl (Conv.of rfl) (.nil _)) (l11Tip_ct n.seen hgd.l hgd.v) (argOk rfl rfl argOk0) rfl rfl) ?_
        all_goals refine dr_cons (op_call fb100 (.cons rfl (Conv.of rfl) (.nil _)) (l1Copy_ct (tipOfS n.seen) (by omega)) (argOk rfl rfl argOk0) rfl rfl) ?_
        all_goals refine dr_cons (op_fab f29_0_WrldS rfl rfl) ?_
        all_goals refine dr_cons (op_ld ty3 rfl rfl rfl) ?_
        all_goals refine dr_cons (op_max rfl rfl rfl) ?_
        all_goals refine dr_cons (op_mv rfl (Conv.of rfl) rfl) ?_
        all_goals refine dr_cons (op_callO fb87 (.cons rfl (Conv.of rfl) (.nil _)) (l71Pay_ct (nx (nx r2 1) 1) (hf4.weak (by omega))) (olsk rfl ols0) (oksk (by exact obOk_cell) oks0) (oksk (by exact obOk_cell) oks0) rfl (argOb rfl rfl rfl argO0) (fun o ho => by cases ho) rfl) ?_
        all_goals refine dr_cons (op_build (.cons f60_0 rfl (Conv.of rfl) (.cons f60_1 rfl (Conv.of rfl) (.nil _))) z60 rfl pl60 rfl) ?_
        all_goals refine dr_cons (op_bsl sl34 z60 (.cons rfl (Conv.of rfl) (.nil _)) rfl (by decide) rfl) ?_
        all_goals refine dr_cons (op_app sl34 z60 ul34 rfl rfl rfl (by (simp; omega)) (by (simp; omega)) rfl rfl) ?_
        all_goals refine dr_cons (op_asl rfl rfl rfl rfl) ?_
        all_goals refine dr_nil mixed rfl ?_
        exact nx_seq ⟨(tipOfS n.seen ++ [⟨max w.epoch 1, payV (nx (nx r2 1) 1)⟩], nx (nx (nx r2 1) 1) 3), ⟨by simp; omega, by simp only [nx]; omega, by simp only [nx]; omega⟩, Le.mk rfl (tlb rfl rfl rfl (tlb rfl rfl rfl (tlb rfl rfl rfl (tlc rfl (Conv.ol) rfl tln)))) (olk rfl (by exact obOk_cell) (olk rfl (by exact obOkNs) (olk rfl (by exact obOkS rfl) (olk rfl (by exact obOk_cell) oln)))) (hS_sub (a := ro r w) rfl)⟩
      · refine awp_skip ?_
        exact nx_seq ⟨(c2, nx r2 1), ⟨by show c2.length ≤ 60; omega, by simp only [nx]; omega, by simp only [nx]; omega⟩, Le.mk rfl (tlb rfl rfl rfl (tlb rfl rfl rfl (tlb rfl rfl rfl (tle rfl (rfl) rfl tln)))) (olk rfl (by exact obOk_cell) (olk rfl (by exact obOkNs) (olk rfl (by exact obOkS rfl) (olk rfl (by exact obOk_cell) oln)))) (hS_sub (a := ro r w) rfl)⟩
    · rintro ⟨c3, r3⟩ ⟨k1, k2, k3⟩
      simp only at k1 k2 k3 ⊢
      all_goals refine awp_seq (awp_region (id := 7) ?_)
      all_goals refine awpOps_cons (op_fab f29_3_WrldS rfl rfl) ?_
      all_goals refine awpOps_cons (op_ld ty3 rfl rfl rfl) ?_
      all_goals refine awpOps_cons (op_mv rfl (Conv.of rfl) rfl) ?_
      all_goals refine awpOps_cons (op_build (.cons f48_0 rfl (Conv.of rfl) (.cons f48_1 rfl (Conv.of rfl) (.nil _))) z48 rfl pl48 rfl) ?_
      all_goals refine awpOps_cons (op_st ty48 rfl rfl (Conv.of rfl) rfl) ?_
      all_goals refine awpOps_nil ?_
      refine awp_ret ?_
      repeat first | refine rt_seq ?_ | refine rt_block ?_
      refine ⟨_, _, res1 (ol := ro r3 w) (.rc ty48 rfl rfl) (fun o ho => by cases ho) (olk rfl obOk_cell (olk rfl obOkNs oln)) (hS_keys rfl), _, r3, rfl, rfl, ?_, k2, by omega⟩
      show c3.length ≤ 100
      omega
end Go.Proofs.YtmdhfalfppkpeaaGreat

/- The reference: draws of events. -/
set_option linter.unusedVariables false
set_option linter.unusedSimpArgs false
namespace Go.Proofs.YtmdhfalfppkpeaaGreat
open Go Go.Wt
set_option maxHeartbeats 4000000 in
theorem l72Event_ct (r : Rd) (w : Wrld) (hw : FineX w) (hp : Far 600000 r) : Ct Tryz.prog 109 [.box 0 (IsLens.whole Rd), .v (fW w)] (obs (ro r w)) (fun r1 h1 => ∃ (e : Evt) (r' : Rd), r1 = .v e ∧ h1 = obs (ro r' w) ∧ r.p ≤ r'.p ∧ r'.p ≤ r.p + 120) := by
  have hep := hw.ep
  have hgll := hw.ll
  have hb8 := pk_bd hp (by omega) 8
  refine Ct.intro Tryz.func109 rfl rfl ?_
  all_goals refine awp_seq (awp_region (id := 0) ?_)
  all_goals refine awpOps_cons (op_box (o := 5) ty29_WrldS rfl (Conv.of rfl) rfl rfl) ?_
  all_goals refine awpOps_cons (op_alloc (o := 6) z78 rfl rfl) ?_
  all_goals refine awpOps_nil ?_
  all_goals refine awp_seq (awp_region (id := 1) ?_)
  all_goals refine awpOps_cons (op_fab f29_2_WrldS rfl rfl) ?_
  all_goals refine awpOps_cons (op_ldl ty27_OListVote rfl rfl rfl) ?_
  all_goals refine awpOps_cons (op_len sl27 rfl rfl) ?_
  all_goals refine awpOps_cons (op_as rfl (Conv.of rfl) rfl) ?_
  all_goals refine awpOps_nil ?_
  refine awp_seq_ex (ι := Rd) (fun i => mkSt 64 [(0, .box 0 (IsLens.whole Rd)), (3, .box 5 (IsLens.whole WrldS)), (4, .box 6 (IsLens.whole Evt))] [(0, .cell i), (1, .arr (w.nodes.map sN)), (5, .cell (fW w)), (6, .cell Evt.zero)]) (fun i => r.p ≤ i.p ∧ i.p ≤ r.p + 1) ?_ ?_
  · all_goals refine awp_seq (awp_region (id := 2) ?_)
    all_goals refine awpOps_cons (op_mv rfl (Conv.of rfl) rfl) ?_
    all_goals refine awpOps_cons (op_gtr rfl rfl rfl) ?_
    all_goals refine awpOps_cons (op_mv rfl (Conv.of rfl) rfl) ?_
    all_goals refine g_split (t := 12) rfl (fun h => ?_) (fun h => ?_)
    all_goals first | refine awpOps_cons (g_off rfl rfl rfl rfl rfl) ?_ | refine awpOps_cons (g_on rfl rfl rfl (op_mv rfl (Conv.of rfl) rfl)) ?_
    all_goals first | refine awpOps_cons (g_off rfl rfl rfl rfl rfl) ?_ | refine awpOps_cons (g_on rfl rfl rfl (op_callO fb54 (.cons rfl (Conv.of rfl) (.cons rfl (Conv.of rfl) (.nil _))) (pick_ct r 8 (by unfold Far at hp; omega)) (olsk rfl ols0) (oksk (by exact obOk_cell) oks0) (oksk (by exact obOk_cell) oks0) rfl (argOb rfl rfl rfl (argOk' rfl rfl argO0)) (fun o ho => by cases ho) rfl)) ?_
    all_goals first | refine awpOps_cons (g_off rfl rfl rfl rfl rfl) ?_ | refine awpOps_cons (g_on rfl rfl rfl (op_lss rfl rfl rfl)) ?_
    all_goals refine awpOps_cons (op_pick rfl rfl rfl rfl) ?_
    all_goals refine awpOps_nil ?_
    · refine awp_cond rfl (fun h2 => ?_) (fun h2 => ?_)
      · have hlg : 0 < w.log.length := by have := of_decide_eq_true h; simpa [fW] using this
        have hf1 : Far 600001 (nx r 1) := hp.nx (by omega) (by omega)
        have hf2 : Far 600002 (nx (nx r 1) 1) := hf1.nx (by omega) (by omega)
        have hf3 : Far 600003 (nx (nx (nx r 1) 1) 1) := hf2.nx (by omega) (by omega)
        have k1 := pk_bd hf1 (by omega) (min (w.log.length : Int) 6)
        have k2 := k1.2 (by omega)
        have k3 := pk_bd hf3 (by omega) (w.log.length : Int)
        have k4 := k3.2 (by omega)
        all_goals refine awp_seq (awp_region (id := 3) ?_)
        all_goals refine awpOps_cons (op_mv rfl (Conv.of rfl) rfl) ?_
        all_goals refine awpOps_cons (op_sub rfl rfl rfl (by (simp only [fW]; omega))) ?_
        all_goals refine awpOps_cons (op_mv rfl (Conv.of rfl) rfl) ?_
        all_goals refine awpOps_cons (op_mv rfl (Conv.of rfl) rfl) ?_
        all_goals refine awpOps_cons (op_min rfl rfl rfl) ?_
        all_goals refine awpOps_cons (op_callO fb54 (.cons rfl (Conv.of rfl) (.cons rfl (Conv.of rfl) (.nil _))) (pick_ct (nx r 1) (min (w.log.length : Int) 6) (by unfold Far at hf1; omega)) (olsk rfl ols0) (oksk (by exact obOk_cell) oks0) (oksk (by exact obOk_cell) oks0) rfl (argOb rfl rfl rfl (argOk' rfl rfl argO0)) (fun o ho => by cases ho) rfl) ?_
        all_goals refine awpOps_cons (op_sub rfl rfl rfl (by (simp only [fW]; omega))) ?_
        all_goals refine awpOps_cons (op_as rfl (Conv.of rfl) rfl) ?_
        all_goals refine awpOps_nil ?_
        refine awp_seq_ex (ι := Int × Rd) (fun i => mkSt 64 [(0, .box 0 (IsLens.whole Rd)), (3, .box 5 (IsLens.whole WrldS)), (4, .box 6 (IsLens.whole Evt)), (6, .v i.1)] [(0, .cell i.2), (1, .arr (w.nodes.map sN)), (5, .cell (fW w)), (6, .cell Evt.zero)]) (fun i => r.p ≤ i.2.p ∧ i.2.p ≤ r.p + 4) ?_ ?_
        · all_goals refine awp_seq (awp_region (id := 4) ?_)
          all_goals refine awpOps_cons (op_mv rfl (Conv.of rfl) rfl) ?_
          all_goals refine awpOps_cons (op_callO fb54 (.cons rfl (Conv.of rfl) (.cons rfl (Conv.of rfl) (.nil _))) (pick_ct (nx (nx r 1) 1) 4 (by unfold Far at hf2; omega)) (olsk rfl ols0) (oksk (by exact obOk_cell) oks0) (oksk (by exact obOk_cell) oks0) rfl (argOb rfl rfl rfl (argOk' rfl rfl argO0)) (fun o ho => by cases ho) rfl) ?_
          all_goals refine awpOps_cons (op_eql rfl rfl rfl) ?_
          all_goals refine awpOps_nil ?_
          refine awp_cond rfl (fun h2 => ?_) (fun h2 => ?_)
          · all_goals refine awp_region (id := 5) ?_
            all_goals refine awpOps_cons (op_mv rfl (Conv.of rfl) rfl) ?_
            all_goals refine awpOps_cons (op_mv rfl (Conv.of rfl) rfl) ?_
            all_goals refine awpOps_cons (op_callO fb54 (.cons rfl (Conv.of rfl) (.cons rfl (Conv.of rfl) (.nil _))) (pick_ct (nx (nx (nx r 1) 1) 1) (w.log.length : Int) (by unfold Far at hf3; omega)) (olsk rfl ols0) (oksk (by exact obOk_cell) oks0) (oksk (by exact obOk_cell) oks0) rfl (argOb rfl rfl rfl (argOk' rfl rfl argO0)) (fun o ho => by cases ho) rfl) ?_
            all_goals refine awpOps_cons (op_as rfl (Conv.of rfl) rfl) ?_
            all_goals refine awpOps_nil ?_
            exact nx_seq ⟨(_, nx (nx (nx (nx r 1) 1) 1) 1), ⟨by simp only [nx]; omega, by simp only [nx]; omega⟩, Le.mk rfl (tlb rfl rfl rfl (tlb rfl rfl rfl (tlb rfl rfl rfl (tle rfl (rfl) rfl tln)))) (olk rfl (by exact obOk_cell) (olk rfl (by exact obOkNs) (olk rfl (by exact obOkS rfl) (olk rfl (by exact obOk_cell) oln)))) (hS_sub (a := ro r w) rfl)⟩
          · refine awp_skip ?_
            exact nx_seq ⟨(_, nx (nx (nx r 1) 1) 1), ⟨by simp only [nx]; omega, by simp only [nx]; omega⟩, Le.mk rfl (tlb rfl rfl rfl (tlb rfl rfl rfl (tlb rfl rfl rfl (tle rfl (rfl) rfl tln)))) (olk rfl (by exact obOk_cell) (olk rfl (by exact obOkNs) (olk rfl (by exact obOkS rfl) (olk rfl (by exact obOk_cell) oln)))) (hS_sub (a := ro r w) rfl)⟩
        · rintro ⟨a, r2⟩ ⟨g1, g2⟩
          simp only at g1 g2 ⊢
          have hf4 : Far 600005 r2 := by unfold Far at hp ⊢; omega
          have k5 := pk_bd hf4 (by omega) 4
          have k6 := k5.2 (by omega)
          all_goals refine awp_seq (awp_region (id := 6) ?_)
          all_goals refine awpOps_cons (op_mv rfl (Conv.of rfl) rfl) ?_
          all_goals refine awpOps_cons (op_mv rfl (Conv.of rfl) rfl) ?_
          all_goals refine awpOps_cons (op_callO fb54 (.cons rfl (Conv.of rfl) (.cons rfl (Conv.of rfl) (.nil _))) (pick_ct r2 4 (by unfold Far at hf4; omega)) (olsk rfl ols0) (oksk (by exact obOk_cell) oks0) (oksk (by exact obOk_cell) oks0) rfl (argOb rfl rfl rfl (argOk' rfl rfl argO0)) (fun o ho => by cases ho) rfl) ?_
          all_goals refine awpOps_cons (op_add rfl rfl rfl (by omega)) ?_
          all_goals refine awpOps_cons (op_build (.cons f78_0 rfl (Conv.of rfl) (.cons f78_1 rfl (Conv.of rfl) (.cons f78_2 rfl (Conv.of rfl) (.nil _)))) z78 rfl pl78 rfl) ?_
          all_goals refine awpOps_cons (op_st ty78 rfl rfl (Conv.of rfl) rfl) ?_
          all_goals refine awpOps_nil ?_
          refine awp_ret ?_
          repeat first | refine rt_seq ?_ | refine rt_block ?_
          refine ⟨_, _, res1 (ol := ro (nx r2 1) w) (.rc ty78 rfl rfl) (fun o ho => by cases ho) (olk rfl obOk_cell (olk rfl obOkNs oln)) (hS_keys rfl), _, nx r2 1, rfl, rfl, by simp only [nx]; omega, by simp only [nx]; omega⟩
      · refine awp_skip ?_
        exact nx_seq ⟨nx r 1, ⟨by simp only [nx]; omega, by simp only [nx]; omega⟩, Le.mk rfl (tlb rfl rfl rfl (tlb rfl rfl rfl (tlb rfl rfl rfl tln))) (olk rfl (by exact obOk_cell) (olk rfl (by exact obOkNs) (olk rfl (by exact obOkS rfl) (olk rfl (by exact obOk_cell) oln)))) (hS_sub (a := ro r w) rfl)⟩
    · refine awp_cond rfl (fun h2 => absurd h2 (by decide)) (fun h2 => ?_)
      refine awp_skip ?_
      exact nx_seq ⟨r, ⟨by omega, by omega⟩, Le.mk rfl (tlb rfl rfl rfl (tlb rfl rfl rfl (tlb rfl rfl rfl tln))) (olk rfl (by exact obOk_cell) (olk rfl (by exact obOkNs) (olk rfl (by exact obOkS rfl) (olk rfl (by exact obOk_cell) oln)))) (hS_sub (a := ro r w) rfl)⟩
  · rintro r2 ⟨g1, g2⟩
    have hf2 : Far 600001 r2 := by unfold Far at hp ⊢; omega
    have k5 := pk_bd hf2 (by omega) 8
    have k6 := k5.2 (by omega)
    have hf3 : Far 600002 (nx r2 1) := hf2.nx (by omega) (by omega)
    have hf4 : Far 600003 (nx (nx r2 1) 1) := hf3.nx (by omega) (by omega)
    have k7 := pk_bd hf3 (by omega) 4
    have k8 := k7.2 (by omega)
    all_goals refine awp_seq (awp_seq (awp_region (id := 7) ?_))
    all_goals refine awpOps_cons (op_mv rfl (Conv.of rfl) rfl) ?_
    all_goals refine awpOps_cons (op_callO fb54 (.cons rfl (Conv.of rfl) (.cons rfl (Conv.of rfl) (.nil _))) (pick_ct r2 8 (by unfold Far at hf2; omega)) (olsk rfl ols0) (oksk (by exact obOk_cell) oks0) (oksk (by exact obOk_cell) oks0) rfl (argOb rfl rfl rfl (argOk' rfl rfl argO0)) (fun o ho => by cases ho) rfl) ?_
    all_goals refine awpOps_nil ?_
    generalize pk r2 8 = k at k5 k6 ⊢
    refine awp_block ?_
    all_goals refine awp_seq (awp_seq (awp_region (id := 8) ?_))
    all_goals refine awpOps_cons (op_eql rfl rfl rfl) ?_
    all_goals refine awpOps_cons (op_as rfl (Conv.of rfl) rfl) ?_
    all_goals refine awpOps_nil ?_
    refine nx_seq ?_
    refine awp_to (s' := mkSt 64 [(0, .box 0 (IsLens.whole Rd)), (3, .box 5 (IsLens.whole WrldS)), (4, .box 6 (IsLens.whole Evt)), (36, .v k), (37, .v (decide (k = 0) || decide (k = 1)))] [(0, .cell (nx r2 1)), (1, .arr (w.nodes.map sN)), (5, .cell (fW w)), (6, .cell Evt.zero)]) ?_ ?_
    · refine awp_cond rfl (fun h2 => ?_) (fun h2 => ?_)
      · refine awp_skip ?_
        all_goals exact Le.mk rfl (tlb rfl rfl rfl (tlb rfl rfl rfl (tlb rfl rfl rfl (tle rfl (rfl) rfl (tle rfl (by (simp_all; try rfl)) rfl tln))))) (olk rfl (by exact obOk_cell) (olk rfl (by exact obOkNs) (olk rfl (by exact obOkS rfl) (olk rfl (by exact obOk_cell) oln)))) (hS_sub (a := ro r w) rfl)
      · all_goals refine awp_region (id := 9) ?_
        all_goals refine awpOps_cons (op_eql rfl rfl rfl) ?_
        all_goals refine awpOps_cons (op_as rfl (Conv.of rfl) rfl) ?_
        all_goals refine awpOps_nil ?_
        all_goals exact Le.mk rfl (tlb rfl rfl rfl (tlb rfl rfl rfl (tlb rfl rfl rfl (tle rfl (rfl) rfl (tle rfl (by (simp_all; try rfl)) rfl tln))))) (olk rfl (by exact obOk_cell) (olk rfl (by exact obOkNs) (olk rfl (by exact obOkS rfl) (olk rfl (by exact obOk_cell) oln)))) (hS_sub (a := ro r w) rfl)
    · refine awp_cond rfl (fun h2 => ?_) (fun h2 => ?_)
      · all_goals refine awp_seq (awp_region (id := 10) ?_)
        all_goals refine awpOps_cons (op_build (.cons f78_0 rfl (Conv.of rfl) (.nil _)) z78 rfl pl78 rfl) ?_
        all_goals refine awpOps_cons (op_st ty78 rfl rfl (Conv.of rfl) rfl) ?_
        all_goals refine awpOps_nil ?_
        refine awp_ret ?_
        repeat first | refine rt_seq ?_ | refine rt_block ?_
        refine ⟨_, _, res1 (ol := ro (nx r2 1) w) (.rc ty78 rfl rfl) (fun o ho => by cases ho) (olk rfl obOk_cell (olk rfl obOkNs oln)) (hS_keys rfl), _, nx r2 1, rfl, rfl, by simp only [nx]; omega, by simp only [nx]; omega⟩
      · all_goals refine awp_seq (awp_seq (awp_region (id := 11) ?_))
        all_goals refine awpOps_cons (op_eql rfl rfl rfl) ?_
        all_goals refine awpOps_cons (op_as rfl (Conv.of rfl) rfl) ?_
        all_goals refine awpOps_nil ?_
        refine nx_seq ?_
        refine awp_to (s' := mkSt 64 [(0, .box 0 (IsLens.whole Rd)), (3, .box 5 (IsLens.whole WrldS)), (4, .box 6 (IsLens.whole Evt)), (36, .v k), (41, .v (decide (k = 2) || (decide (k = 3) || decide (k = 4))))] [(0, .cell (nx r2 1)), (1, .arr (w.nodes.map sN)), (5, .cell (fW w)), (6, .cell Evt.zero)]) ?_ ?_
        · refine awp_cond rfl (fun h3 => ?_) (fun h3 => ?_)
          · refine awp_skip ?_
            all_goals exact Le.mk rfl (tlb rfl rfl rfl (tlb rfl rfl rfl (tlb rfl rfl rfl (tle rfl (rfl) rfl (tle rfl (by (simp_all; try rfl)) rfl tln))))) (olk rfl (by exact obOk_cell) (olk rfl (by exact obOkNs) (olk rfl (by exact obOkS rfl) (olk rfl (by exact obOk_cell) oln)))) (hS_sub (a := ro r w) rfl)
          · all_goals refine awp_seq (awp_region (id := 12) ?_)
            all_goals refine awpOps_cons (op_eql rfl rfl rfl) ?_
            all_goals refine awpOps_cons (op_as rfl (Conv.of rfl) rfl) ?_
            all_goals refine awpOps_nil ?_
            refine awp_cond rfl (fun h4 => ?_) (fun h4 => ?_)
            · refine awp_skip ?_
              all_goals exact Le.mk rfl (tlb rfl rfl rfl (tlb rfl rfl rfl (tlb rfl rfl rfl (tle rfl (rfl) rfl (tle rfl (by (simp_all; try rfl)) rfl tln))))) (olk rfl (by exact obOk_cell) (olk rfl (by exact obOkNs) (olk rfl (by exact obOkS rfl) (olk rfl (by exact obOk_cell) oln)))) (hS_sub (a := ro r w) rfl)
            · all_goals refine awp_region (id := 13) ?_
              all_goals refine awpOps_cons (op_eql rfl rfl rfl) ?_
              all_goals refine awpOps_cons (op_as rfl (Conv.of rfl) rfl) ?_
              all_goals refine awpOps_nil ?_
              all_goals exact Le.mk rfl (tlb rfl rfl rfl (tlb rfl rfl rfl (tlb rfl rfl rfl (tle rfl (rfl) rfl (tle rfl (by (simp_all; try rfl)) rfl tln))))) (olk rfl (by exact obOk_cell) (olk rfl (by exact obOkNs) (olk rfl (by exact obOkS rfl) (olk rfl (by exact obOk_cell) oln)))) (hS_sub (a := ro r w) rfl)
        · refine awp_cond rfl (fun h3 => ?_) (fun h3 => ?_)
          · all_goals refine awp_seq (awp_region (id := 14) ?_)
            all_goals refine awpOps_cons (op_fab f29_0_WrldS rfl rfl) ?_
            all_goals refine awpOps_cons (op_ld ty3 rfl rfl rfl) ?_
            all_goals refine awpOps_cons (op_max rfl rfl rfl) ?_
            all_goals refine awpOps_cons (op_call fb79 (.cons rfl (Conv.of rfl) (.nil _)) (l3Leader_ct _ (by show -1000 ≤ max w.epoch 1 ∧ max w.epoch 1 ≤ 1000000; omega)) (argOk rfl rfl argOk0) rfl rfl) ?_
            all_goals refine awpOps_cons (op_mv rfl (Conv.of rfl) rfl) ?_
            all_goals refine awpOps_cons (op_callO fb87 (.cons rfl (Conv.of rfl) (.nil _)) (l71Pay_ct (nx r2 1) (hf3.weak (by omega))) (olsk rfl ols0) (oksk (by exact obOk_cell) oks0) (oksk (by exact obOk_cell) oks0) rfl (argOb rfl rfl rfl argO0) (fun o ho => by cases ho) rfl) ?_
            all_goals refine awpOps_cons (op_build (.cons f78_0 rfl (Conv.of rfl) (.cons f78_1 rfl (Conv.of rfl) (.cons f78_3 rfl (Conv.of rfl) (.nil _)))) z78 rfl pl78 rfl) ?_
            all_goals refine awpOps_cons (op_st ty78 rfl rfl (Conv.of rfl) rfl) ?_
            all_goals refine awpOps_nil ?_
            refine awp_ret ?_
            repeat first | refine rt_seq ?_ | refine rt_block ?_
            refine ⟨_, _, res1 (ol := ro (nx (nx r2 1) 3) w) (.rc ty78 rfl rfl) (fun o ho => by cases ho) (olk rfl obOk_cell (olk rfl obOkNs oln)) (hS_keys rfl), _, nx (nx r2 1) 3, rfl, rfl, by simp only [nx]; omega, by simp only [nx]; omega⟩
          · all_goals refine awp_seq (awp_region (id := 15) ?_)
            all_goals refine awpOps_cons (op_eql rfl rfl rfl) ?_
            all_goals refine awpOps_cons (op_as rfl (Conv.of rfl) rfl) ?_
            all_goals refine awpOps_nil ?_
            refine awp_cond rfl (fun h4 => ?_) (fun h4 => ?_)
            · all_goals refine awp_seq (awp_region (id := 16) ?_)
              all_goals refine awpOps_cons (op_mv rfl (Conv.of rfl) rfl) ?_
              all_goals refine awpOps_cons (op_callO fb54 (.cons rfl (Conv.of rfl) (.cons rfl (Conv.of rfl) (.nil _))) (pick_ct (nx r2 1) 4 (by unfold Far at hf3; omega)) (olsk rfl ols0) (oksk (by exact obOk_cell) oks0) (oksk (by exact obOk_cell) oks0) rfl (argOb rfl rfl rfl (argOk' rfl rfl argO0)) (fun o ho => by cases ho) rfl) ?_
              all_goals refine awpOps_cons (op_add rfl rfl rfl (by omega)) ?_
              all_goals refine awpOps_cons (op_mv rfl (Conv.of rfl) rfl) ?_
              all_goals refine awpOps_cons (op_callO fb87 (.cons rfl (Conv.of rfl) (.nil _)) (l71Pay_ct (nx (nx r2 1) 1) (hf4.weak (by omega))) (olsk rfl ols0) (oksk (by exact obOk_cell) oks0) (oksk (by exact obOk_cell) oks0) rfl (argOb rfl rfl rfl argO0) (fun o ho => by cases ho) rfl) ?_
              all_goals refine awpOps_cons (op_build (.cons f78_0 rfl (Conv.of rfl) (.cons f78_1 rfl (Conv.of rfl) (.cons f78_3 rfl (Conv.of rfl) (.nil _)))) z78 rfl pl78 rfl) ?_
              all_goals refine awpOps_cons (op_st ty78 rfl rfl (Conv.of rfl) rfl) ?_
              all_goals refine awpOps_nil ?_
              refine awp_ret ?_
              repeat first | refine rt_seq ?_ | refine rt_block ?_
              refine ⟨_, _, res1 (ol := ro (nx (nx (nx r2 1) 1) 3) w) (.rc ty78 rfl rfl) (fun o ho => by cases ho) (olk rfl obOk_cell (olk rfl obOkNs oln)) (hS_keys rfl), _, nx (nx (nx r2 1) 1) 3, rfl, rfl, by simp only [nx]; omega, by simp only [nx]; omega⟩
            · refine awp_skip ?_
              repeat first | refine nx_seq ?_ | refine nx_block ?_
              all_goals refine awp_seq (awp_region (id := 17) ?_)
              all_goals refine awpOps_cons (op_mv rfl (Conv.of rfl) rfl) ?_
              all_goals refine awpOps_cons (op_ldd ty29_WrldS rfl rfl rfl) ?_
              refine awpOps_callE (ι := Vote × Rd) (ro (nx r2 1) w) (fun i => .v i.1) (fun i => ro i.2 w) (fun i => i.1.chain.length ≤ 100 ∧ (nx r2 1).p ≤ i.2.p ∧ i.2.p ≤ (nx r2 1).p + 100) rfl fb154 (.cons rfl (Conv.of rfl) (.cons rfl (Conv.of rfl) (.nil _))) (l72Forge_ct (nx r2 1) w hw (hf3.weak (by omega))) (fun r h' ⟨v, r', e1, e2, e3, e4, e5⟩ => ⟨(v, r'), e1, e2, e3, e4, e5⟩) (olsk rfl (olsk rfl ols0)) (oksk obOk_cell (oksk obOkNs oks0)) (argOb rfl rfl rfl (argOb rfl rfl rfl argO0)) rfl (fun i => rfl) (fun i => oksk obOk_cell (oksk obOkNs oks0)) (fun i o ho => by cases ho) ?_
              rintro ⟨v, r3⟩ ⟨q1, q2, q3⟩
              simp only [nx] at q1 q2 q3 ⊢
              all_goals refine awpOps_cons (op_build (.cons f78_0 rfl (Conv.of rfl) (.cons f78_4 rfl (Conv.of rfl) (.nil _))) z78 rfl pl78 rfl) ?_
              all_goals refine awpOps_cons (op_st ty78 rfl rfl (Conv.of rfl) rfl) ?_
              all_goals refine awpOps_nil ?_
              refine awp_ret ?_
              repeat first | refine rt_seq ?_ | refine rt_block ?_
              refine ⟨_, _, res1 (ol := ro r3 w) (.rc ty78 rfl rfl) (fun o ho => by cases ho) (olk rfl obOk_cell (olk rfl obOkNs oln)) (hS_keys rfl), _, r3, rfl, rfl, by omega, by omega⟩
end Go.Proofs.YtmdhfalfppkpeaaGreat

/- The reference: draws of plays. -/
set_option linter.unusedVariables false
set_option linter.unusedSimpArgs false
namespace Go.Proofs.YtmdhfalfppkpeaaGreat
open Go Go.Wt
set_option maxHeartbeats 8000000 in
theorem l72Play_ct (r : Rd) (hp : Far 1000 r) : Ct Tryz.prog 53 [.box 0 (IsLens.whole Rd)] (obs [(0, .cell r)]) (fun r1 h1 => ∃ (bad : Int) (evs : List Evt) (w : Wrld) (r' : Rd), r1 = .tup [.v bad, .v (OList.mk evs true), .v (sW w)] ∧ h1 = obs (ro r' w) ∧ evs.length ≤ 100 ∧ within bad 0 4 = true ∧ FineX w ∧ Far 20000 r') := by
  have hq0 := pk_bd hp (by omega) 5
  have hq0' := hq0.2 (by omega)
  have hf1 : Far 1001 (nx r 1) := hp.nx (by omega) (by omega)
  have hq1 := pk_bd hf1 (by omega) 5
  have hq1' := hq1.2 (by omega)
  have hf2 : Far 1002 (nx (nx r 1) 1) := hf1.nx (by omega) (by omega)
  refine Ct.intro Tryz.func53 rfl rfl ?_
  all_goals refine awp_seq (awp_region (id := 0) ?_)
  all_goals refine awpOps_cons (op_as rfl (Conv.of rfl) rfl) ?_
  all_goals refine awpOps_cons (op_as rfl (Conv.of rfl) rfl) ?_
  all_goals refine awpOps_cons (op_alloc (o := 5) z29_WrldS rfl rfl) ?_
  all_goals refine awpOps_nil ?_
  all_goals refine awp_seq (awp_region (id := 1) ?_)
  all_goals refine awpOps_cons (op_mv rfl (Conv.of rfl) rfl) ?_
  all_goals refine awpOps_cons (op_callO fb54 (.cons rfl (Conv.of rfl) (.cons rfl (Conv.of rfl) (.nil _))) (pick_ct r 5 (by unfold Far at hp; omega)) (olsk rfl ols0) (oksk (by exact obOk_cell) oks0) (oksk (by exact obOk_cell) oks0) rfl (argOb rfl rfl rfl (argOk' rfl rfl argO0)) (fun o ho => by cases ho) rfl) ?_
  all_goals refine awpOps_cons (op_as rfl (Conv.of rfl) rfl) ?_
  all_goals refine awpOps_nil ?_
  have hb : within (pk r 5) 0 4 = true := by simp [within]; omega
  generalize pk r 5 = bad at hq0 hq0' hb ⊢
  all_goals refine awp_seq (awp_region (id := 2) ?_)
  all_goals refine awpOps_cons (op_mv rfl (Conv.of rfl) rfl) ?_
  refine awpOps_callO [] rfl fb57 (.cons rfl (Conv.of rfl) (.nil _)) (sWorldNew_w bad hb) ols0 oks0 (argOk' rfl rfl argO0) rfl ?_
  rintro r_ h' ⟨rfl, rfl⟩
  refine ⟨so (newW bad), rfl, (fun o ho => by cases ho), fun o ho _ => ?_, oksk obOkNs oks0, fun o ho => ?_, ?_⟩
  · have : o = 1 := by simpa [keys, lk0] using ho
    subst this; rfl
  · have : o = 1 := by simpa using (show o ∈ [1] from ho)
    subst this; rfl
  all_goals refine awpOps_cons (op_mvo rfl rfl rfl rfl) ?_
  all_goals refine awpOps_cons (op_extm rfl rfl rfl rfl) ?_
  all_goals refine awpOps_cons (op_ext rfl rfl rfl) ?_
  all_goals refine awpOps_cons (op_alloc (o := 6) z29_WrldS rfl rfl) ?_
  all_goals refine awpOps_cons (op_stm ty29_WrldS rfl rfl rfl) ?_
  all_goals refine awpOps_cons (op_as rfl (Conv.of rfl) rfl) ?_
  all_goals refine awpOps_nil ?_
  all_goals refine awp_seq (awp_region (id := 3) ?_)
  all_goals refine awpOps_cons (op_bsl sl23 z78 (.nil _) rfl (by decide) rfl) ?_
  all_goals refine awpOps_cons (op_asl rfl rfl rfl rfl) ?_
  all_goals refine awpOps_nil ?_
  all_goals refine awp_seq (awp_seq (awp_region (id := 4) ?_))
  all_goals refine awpOps_cons (op_mv rfl (Conv.of rfl) rfl) ?_
  all_goals refine awpOps_cons (op_callO fb54 (.cons rfl (Conv.of rfl) (.cons rfl (Conv.of rfl) (.nil _))) (pick_ct (nx r 1) 5 (by unfold Far at hf1; omega)) (olsk rfl ols0) (oksk (by exact obOk_cell) oks0) (oksk (by exact obOk_cell) oks0) rfl (argOb rfl rfl rfl (argOk' rfl rfl argO0)) (fun o ho => by cases ho) rfl) ?_
  all_goals refine awpOps_cons (op_as rfl (Conv.of rfl) rfl) ?_
  all_goals refine awpOps_nil ?_
  generalize pk (nx r 1) 5 = n0 at hq1 hq1' ⊢
  generalize nx (nx r 1) 1 = r0 at hf2 ⊢
  refine awp_block ?_
  refine awp_loop' (fun n_ s => ∃ (k : Nat), ∃ (evs : List Evt), ∃ (w : Wrld), ∃ (r1 : Rd), ∃ (hk : n_ + k = n0.toNat), ∃ (hw : FineX w), ∃ (he : evs.length ≤ 10 * k), ∃ (hf : Far (1002 + 3 * (k : Int)) r1), s = mkSt 120 [(0, .box 0 (IsLens.whole Rd)), (4, .box 5 (IsLens.whole WrldS)), (5, .v bad), (6, .box 6 (IsLens.whole WrldS)), (8, .v (OList.mk evs true)), (9, .v (n0 - (k : Int)))] [(0, .cell r1), (1, .arr (Wrld.nodes w |>.map sN)), (5, .cell WrldS.zero), (6, .cell (sW w))]) (n0.toNat) ⟨0, [], newW bad, r0, by omega, newW_ok bad, by simp, by simpa using hf2, rfl⟩ (Le.mk rfl (tlb rfl rfl rfl (tlb rfl rfl rfl (tle rfl (rfl) rfl (tlb rfl rfl rfl (tle rfl (rfl) rfl (tle rfl (by (show AV.v _ = AV.v _; congr 1; omega)) rfl tln)))))) (olk rfl (by exact obOk_cell) (olk rfl (by exact obOkNs) (olk rfl (by exact obOkS0) (olk rfl (by exact obOkS rfl) oln)))) (hS_sub (a := [(0, .cell r)]) rfl)) ?_
  rintro n_ s ⟨k, evs, w, r1, hk, hw, he, hf, rfl⟩
  have hk4 : k ≤ 4 := by omega
  have hep := hw.ep
  all_goals refine awp_seq (awp_seq (awp_region (id := 5) ?_))
  all_goals refine awpOps_cons (op_mv rfl (Conv.of rfl) rfl) ?_
  all_goals refine awpOps_cons (op_gtr rfl rfl rfl) ?_
  all_goals refine awpOps_nil ?_
  refine awp_cond rfl (fun h => ?_) (fun h => ?_)
  · have hlt : (k : Int) < n0 := by have := of_decide_eq_true h; omega
    refine awp_skip ?_
    refine awp_seq (awp_block ?_)
    all_goals refine awp_seq (awp_seq (awp_region (id := 7) ?_))
    all_goals refine awpOps_cons (op_build (.cons f78_0 rfl (Conv.of rfl) (.nil _)) z78 rfl pl78 rfl) ?_
    all_goals refine awpOps_cons (op_fab f29_0_WrldS rfl rfl) ?_
    all_goals refine awpOps_cons (op_ld ty3 rfl rfl rfl) ?_
    all_goals refine awpOps_cons (op_add rfl rfl rfl (by (simp only [sW]; omega))) ?_
    all_goals refine awpOps_cons (op_call fb79 (.cons rfl (Conv.of rfl) (.nil _)) (l3Leader_ct _ (by simp only [sW]; omega)) (argOk rfl rfl argOk0) rfl rfl) ?_
    all_goals refine awpOps_cons (op_mv rfl (Conv.of rfl) rfl) ?_
    all_goals refine awpOps_cons (op_callO fb87 (.cons rfl (Conv.of rfl) (.nil _)) (l71Pay_ct r1 (hf.weak (by omega))) (olsk rfl ols0) (oksk (by exact obOk_cell) oks0) (oksk (by exact obOk_cell) oks0) rfl (argOb rfl rfl rfl argO0) (fun o ho => by cases ho) rfl) ?_
    all_goals refine awpOps_cons (op_build (.cons f78_0 rfl (Conv.of rfl) (.cons f78_1 rfl (Conv.of rfl) (.cons f78_3 rfl (Conv.of rfl) (.nil _)))) z78 rfl pl78 rfl) ?_
    all_goals refine awpOps_cons (op_bsl sl23 z78 (.cons rfl (Conv.of rfl) (.cons rfl (Conv.of rfl) (.nil _))) rfl (by decide) rfl) ?_
    all_goals refine awpOps_cons (op_len sl23 rfl rfl) ?_
    all_goals refine awpOps_cons (op_mv rfl (Conv.of rfl) rfl) ?_
    all_goals refine awpOps_nil ?_
    have hf3 : Far (1005 + 3 * (k : Int)) (nx r1 3) := hf.nx (by omega) (by omega)
    generalize hes : ([{ kind := 1, a := 0, b := 0, pay := Pay.zero, vote := Vote.zero }, { kind := 2, a := leadS ((sW w).epoch + 1), b := 0, pay := payV r1, vote := Vote.zero }] : List Evt) = es
    have hes2 : es.length = 2 := by rw [← hes]; rfl
    generalize nx r1 3 = r2 at hf3 ⊢
    refine nx_seq (awp_to_ex (ι := List Evt × Wrld) (fun i => mkSt 120 [(0, .box 0 (IsLens.whole Rd)), (4, .box 5 (IsLens.whole WrldS)), (5, .v bad), (6, .box 6 (IsLens.whole WrldS)), (8, .v (OList.mk i.1 true)), (9, .v (n0 - (k : Int)))] [(0, .cell r2), (1, .arr (Wrld.nodes i.2 |>.map sN)), (5, .cell WrldS.zero), (6, .cell (sW i.2))]) (fun i => FineX i.2 ∧ i.1.length ≤ 10 * k + 2) ?_ ?_)
    · refine awp_block ?_
      refine awp_loop' (fun n_ s => ∃ (j : Nat), ∃ (evs2 : List Evt), ∃ (w2 : Wrld), ∃ (hj : n_ + j = 2), ∃ (hw2 : FineX w2), ∃ (he2 : evs2.length ≤ 10 * k + j), s = mkSt 120 [(0, .box 0 (IsLens.whole Rd)), (4, .box 5 (IsLens.whole WrldS)), (5, .v bad), (6, .box 6 (IsLens.whole WrldS)), (8, .v (OList.mk evs2 true)), (9, .v (n0 - (k : Int))), (39, .v (OList.mk es true)), (40, .v (2 : Int)), (41, .v (j : Int))] [(0, .cell r2), (1, .arr (Wrld.nodes w2 |>.map sN)), (5, .cell WrldS.zero), (6, .cell (sW w2))]) (2) ⟨0, evs, w, by omega, hw, by omega, rfl⟩ (Le.mk rfl (tlb rfl rfl rfl (tlb rfl rfl rfl (tle rfl (rfl) rfl (tlb rfl rfl rfl (tle rfl (rfl) rfl (tle rfl (rfl) rfl (tle rfl (by (rw [← hes]; rfl)) rfl (tle rfl (rfl) rfl (tle rfl (rfl) rfl tln))))))))) (olk rfl (by exact obOk_cell) (olk rfl (by exact obOkNs) (olk rfl (by exact obOkS0) (olk rfl (by exact obOkS rfl) oln)))) (hS_sub (a := [(0, .cell r)]) rfl)) ?_
      rintro n_ s ⟨j, evs2, w2, hj, hw2, he2, rfl⟩
      all_goals refine awp_seq (awp_region (id := 8) ?_)
      all_goals refine awpOps_cons (op_lss rfl rfl rfl) ?_
      all_goals refine awpOps_nil ?_
      refine awp_seq (awp_cond rfl (fun h2 => ?_) (fun h2 => ?_))
      · have hj2 : j < 2 := by have := of_decide_eq_true h2; omega
        have hx : es[j]? = some (es[j]'(by omega)) := List.getElem?_eq_getElem (by omega)
        generalize hee : es[j]'(by omega) = e at hx
        refine awp_skip ?_
        refine awp_seq (awp_block ?_)
        all_goals refine awp_seq (awp_region (id := 9) ?_)
        all_goals refine awpOps_cons (op_ix sl23 rfl rfl rfl (by omega) hx) ?_
        all_goals refine awpOps_cons (op_ldr ty78 rfl rfl) ?_
        all_goals refine awpOps_cons (op_alloc (o := 7) z78 rfl rfl) ?_
        all_goals refine awpOps_cons (op_st ty78 rfl rfl (Conv.of rfl) rfl) ?_
        all_goals refine awpOps_nil ?_
        all_goals refine awp_seq (awp_region (id := 10) ?_)
        all_goals refine awpOps_cons (op_mvl rfl rfl rfl rfl) ?_
        all_goals refine awpOps_cons (op_ld ty78 rfl rfl rfl) ?_
        all_goals refine awpOps_cons (op_bsl sl23 z78 (.cons rfl (Conv.of rfl) (.nil _)) rfl (by decide) rfl) ?_
        all_goals refine awpOps_cons (op_app sl23 z78 ul23 rfl rfl rfl (by (simp; omega)) (by (simp; omega)) rfl rfl) ?_
        all_goals refine awpOps_cons (op_asl rfl rfl rfl rfl) ?_
        all_goals refine awpOps_nil ?_
        all_goals refine awp_region (id := 11) ?_
        all_goals refine awpOps_cons (op_ldm ty29_WrldS rfl rfl rfl) ?_
        all_goals refine awpOps_cons (op_ld ty78 rfl rfl rfl) ?_
        all_goals refine awpOps_cons (op_callM (s := 49) (pre := []) fb58 (.nil _) rfl (.cons rfl (Conv.of rfl) (.nil _)) (l21Do_ct w2 _ hw2) (olsk rfl ols0) (oksk (by exact obOkNs) oks0) (oksk (by exact obOkNs) oks0) rfl argO0 (argOk' rfl rfl argO0) (inOne rfl) (inOne rfl) rfl) ?_
        all_goals refine awpOps_cons (op_stm ty29_WrldS rfl rfl rfl) ?_
        all_goals refine awpOps_nil ?_
        all_goals refine awp_region (id := 12) ?_
        all_goals refine awpOps_cons (op_add rfl rfl rfl (by omega)) ?_
        all_goals refine awpOps_cons (op_mv rfl (Conv.of rfl) rfl) ?_
        all_goals refine awpOps_nil ?_
        repeat first | refine nx_seq ?_ | refine nx_block ?_
        exact ⟨n_ - 1, _, by omega, ⟨j + 1, evs2 ++ [e], doF w2 e, by omega, doF_ok _ hw2, by simp; omega, rfl⟩, Le.mk rfl (tlb rfl rfl rfl (tlb rfl rfl rfl (tle rfl (rfl) rfl (tlb rfl rfl rfl (tle rfl (rfl) rfl (tle rfl (rfl) rfl (tle rfl (by rfl) rfl (tle rfl (rfl) rfl (tle rfl (rfl) rfl tln))))))))) (olk rfl (by exact obOk_cell) (olk rfl (by exact obOkNs) (olk rfl (by exact obOkS0) (olk rfl (by exact obOkS rfl) oln)))) (hS_sub (a := [(0, .cell r)]) rfl)⟩
      · refine awp_exit ?_
        repeat refine ex_seq ?_
        refine ex_block ?_
        exact nx_seq ⟨(evs2, w2), ⟨hw2, by simp only; omega⟩, Le.mk rfl (tlb rfl rfl rfl (tlb rfl rfl rfl (tle rfl (rfl) rfl (tlb rfl rfl rfl (tle rfl (rfl) rfl (tle rfl (rfl) rfl tln)))))) (olk rfl (by exact obOk_cell) (olk rfl (by exact obOkNs) (olk rfl (by exact obOkS0) (olk rfl (by exact obOkS rfl) oln)))) (hS_sub (a := [(0, .cell r)]) rfl)⟩
    rintro ⟨evs3, w3⟩ ⟨hw3, he3⟩
    simp only at hw3 he3 ⊢
    refine awp_seq_ex (ι := List Evt × Wrld) (fun i => mkSt 120 [(0, .box 0 (IsLens.whole Rd)), (4, .box 5 (IsLens.whole WrldS)), (5, .v bad), (6, .box 6 (IsLens.whole WrldS)), (8, .v (OList.mk i.1 true)), (9, .v (n0 - (k : Int)))] [(0, .cell r2), (1, .arr (Wrld.nodes i.2 |>.map sN)), (5, .cell WrldS.zero), (6, .cell (sW i.2))]) (fun i => FineX i.2 ∧ i.1.length ≤ 10 * k + 6) ?_ ?_
    · all_goals refine awp_seq (awp_region (id := 13) ?_)
      all_goals refine awpOps_cons (op_as rfl (Conv.of rfl) rfl) ?_
      all_goals refine awpOps_nil ?_
      refine awp_block ?_
      refine awp_loop' (fun n_ s => ∃ (j : Nat), ∃ (evs4 : List Evt), ∃ (w4 : Wrld), ∃ (hj : n_ + j = 4), ∃ (hw4 : FineX w4), ∃ (he4 : evs4.length ≤ 10 * k + 2 + j), s = mkSt 120 [(0, .box 0 (IsLens.whole Rd)), (4, .box 5 (IsLens.whole WrldS)), (5, .v bad), (6, .box 6 (IsLens.whole WrldS)), (8, .v (OList.mk evs4 true)), (9, .v (n0 - (k : Int))), (12, .v ((j : Int) + 1))] [(0, .cell r2), (1, .arr (Wrld.nodes w4 |>.map sN)), (5, .cell WrldS.zero), (6, .cell (sW w4))]) (4) ⟨0, evs3, w3, by omega, hw3, by omega, rfl⟩ (Le.mk rfl (tlb rfl rfl rfl (tlb rfl rfl rfl (tle rfl (rfl) rfl (tlb rfl rfl rfl (tle rfl (rfl) rfl (tle rfl (rfl) rfl (tle rfl (by rfl) rfl tln))))))) (olk rfl (by exact obOk_cell) (olk rfl (by exact obOkNs) (olk rfl (by exact obOkS0) (olk rfl (by exact obOkS rfl) oln)))) (hS_sub (a := [(0, .cell r)]) rfl)) ?_
      rintro n_ s ⟨j, evs4, w4, hj, hw4, he4, rfl⟩
      have hll := hw4.ll
      all_goals refine awp_seq (awp_seq (awp_region (id := 14) ?_))
      all_goals refine awpOps_cons (op_mv rfl (Conv.of rfl) rfl) ?_
      all_goals refine awpOps_cons (op_leq rfl rfl rfl) ?_
      all_goals refine awpOps_cons (op_mv rfl (Conv.of rfl) rfl) ?_
      all_goals refine g_split (t := 55) rfl (fun h => ?_) (fun h => ?_)
      all_goals first | refine awpOps_cons (g_off rfl rfl rfl rfl rfl) ?_ | refine awpOps_cons (g_on rfl rfl rfl (op_fab f29_2_WrldS rfl rfl)) ?_
      all_goals first | refine awpOps_cons (g_off rfl rfl rfl rfl rfl) ?_ | refine awpOps_cons (g_on rfl rfl rfl (op_ldl ty27_OListVote rfl rfl rfl)) ?_
      all_goals first | refine awpOps_cons (g_off rfl rfl rfl rfl rfl) ?_ | refine awpOps_cons (g_on rfl rfl rfl (op_len sl27 rfl rfl)) ?_
      all_goals first | refine awpOps_cons (g_off rfl rfl rfl rfl rfl) ?_ | refine awpOps_cons (g_on rfl rfl rfl (op_gtr rfl rfl rfl)) ?_
      all_goals refine awpOps_cons (op_pick rfl rfl rfl rfl) ?_
      all_goals refine awpOps_nil ?_
      · refine awp_cond rfl (fun h2 => ?_) (fun h2 => ?_)
        · have hj4 : j < 4 := by have := of_decide_eq_true h; omega
          refine awp_skip ?_
          refine awp_seq (awp_block ?_)
          all_goals refine awp_seq (awp_region (id := 16) ?_)
          all_goals refine awpOps_cons (op_fab f29_2_WrldS rfl rfl) ?_
          all_goals refine awpOps_cons (op_ldl ty27_OListVote rfl rfl rfl) ?_
          all_goals refine awpOps_cons (op_len sl27 rfl rfl) ?_
          all_goals refine awpOps_cons (op_sub rfl rfl rfl (by (simp only [sW]; omega))) ?_
          all_goals refine awpOps_cons (op_mv rfl (Conv.of rfl) rfl) ?_
          all_goals refine awpOps_cons (op_build (.cons f78_0 rfl (Conv.of rfl) (.cons f78_1 rfl (Conv.of rfl) (.cons f78_2 rfl (Conv.of rfl) (.nil _)))) z78 rfl pl78 rfl) ?_
          all_goals refine awpOps_cons (op_alloc (o := 8) z78 rfl rfl) ?_
          all_goals refine awpOps_cons (op_st ty78 rfl rfl (Conv.of rfl) rfl) ?_
          all_goals refine awpOps_nil ?_
          all_goals refine awp_seq (awp_region (id := 17) ?_)
          all_goals refine awpOps_cons (op_mvl rfl rfl rfl rfl) ?_
          all_goals refine awpOps_cons (op_ld ty78 rfl rfl rfl) ?_
          all_goals refine awpOps_cons (op_bsl sl23 z78 (.cons rfl (Conv.of rfl) (.nil _)) rfl (by decide) rfl) ?_
          all_goals refine awpOps_cons (op_app sl23 z78 ul23 rfl rfl rfl (by (simp; omega)) (by (simp; omega)) rfl rfl) ?_
          all_goals refine awpOps_cons (op_asl rfl rfl rfl rfl) ?_
          all_goals refine awpOps_nil ?_
          all_goals refine awp_region (id := 18) ?_
          all_goals refine awpOps_cons (op_ldm ty29_WrldS rfl rfl rfl) ?_
          all_goals refine awpOps_cons (op_ld ty78 rfl rfl rfl) ?_
          all_goals refine awpOps_cons (op_callM (s := 73) (pre := []) fb58 (.nil _) rfl (.cons rfl (Conv.of rfl) (.nil _)) (l21Do_ct w4 _ hw4) (olsk rfl ols0) (oksk (by exact obOkNs) oks0) (oksk (by exact obOkNs) oks0) rfl argO0 (argOk' rfl rfl argO0) (inOne rfl) (inOne rfl) rfl) ?_
          all_goals refine awpOps_cons (op_stm ty29_WrldS rfl rfl rfl) ?_
          all_goals refine awpOps_nil ?_
          all_goals refine awp_region (id := 15) ?_
          all_goals refine awpOps_cons (op_mv rfl (Conv.of rfl) rfl) ?_
          all_goals refine awpOps_cons (op_add rfl rfl rfl (by omega)) ?_
          all_goals refine awpOps_cons (op_as rfl (Conv.of rfl) rfl) ?_
          all_goals refine awpOps_nil ?_
          repeat first | refine nx_seq ?_ | refine nx_block ?_
          exact ⟨n_ - 1, _, by omega, ⟨j + 1, _, _, by omega, doF_ok _ hw4, by simp; omega, rfl⟩, Le.mk rfl (tlb rfl rfl rfl (tlb rfl rfl rfl (tle rfl (rfl) rfl (tlb rfl rfl rfl (tle rfl (rfl) rfl (tle rfl (rfl) rfl (tle rfl (by rfl) rfl tln))))))) (olk rfl (by exact obOk_cell) (olk rfl (by exact obOkNs) (olk rfl (by exact obOkS0) (olk rfl (by exact obOkS rfl) oln)))) (hS_sub (a := [(0, .cell r)]) rfl)⟩
        · refine awp_exit ?_
          repeat refine ex_seq ?_
          refine ex_block ?_
          exact nx_seq ⟨(evs4, w4), ⟨hw4, by simp only; omega⟩, Le.mk rfl (tlb rfl rfl rfl (tlb rfl rfl rfl (tle rfl (rfl) rfl (tlb rfl rfl rfl (tle rfl (rfl) rfl (tle rfl (rfl) rfl tln)))))) (olk rfl (by exact obOk_cell) (olk rfl (by exact obOkNs) (olk rfl (by exact obOkS0) (olk rfl (by exact obOkS rfl) oln)))) (hS_sub (a := [(0, .cell r)]) rfl)⟩
      · refine awp_cond rfl (fun h2 => absurd h2 (by decide)) (fun h2 => ?_)
        refine awp_exit ?_
        repeat refine ex_seq ?_
        refine ex_block ?_
        exact nx_seq ⟨(evs4, w4), ⟨hw4, by simp only; omega⟩, Le.mk rfl (tlb rfl rfl rfl (tlb rfl rfl rfl (tle rfl (rfl) rfl (tlb rfl rfl rfl (tle rfl (rfl) rfl (tle rfl (rfl) rfl tln)))))) (olk rfl (by exact obOk_cell) (olk rfl (by exact obOkNs) (olk rfl (by exact obOkS0) (olk rfl (by exact obOkS rfl) oln)))) (hS_sub (a := [(0, .cell r)]) rfl)⟩
    rintro ⟨evs5, w5⟩ ⟨hw5, he5⟩
    simp only at hw5 he5 ⊢
    refine awp_toB_ex (ι := List Evt × Wrld) (fun i => mkSt 120 [(0, .box 0 (IsLens.whole Rd)), (4, .box 5 (IsLens.whole WrldS)), (5, .v bad), (6, .box 6 (IsLens.whole WrldS)), (8, .v (OList.mk i.1 true)), (9, .v (n0 - (k : Int)))] [(0, .cell r2), (1, .arr (Wrld.nodes i.2 |>.map sN)), (5, .cell WrldS.zero), (6, .cell (sW i.2))]) (fun i => FineX i.2 ∧ i.1.length ≤ 10 * k + 10) ?_ ?_
    · all_goals refine awp_seq (awp_region (id := 19) ?_)
      all_goals refine awpOps_cons (op_as rfl (Conv.of rfl) rfl) ?_
      all_goals refine awpOps_nil ?_
      refine awp_block ?_
      refine awp_loop' (fun n_ s => ∃ (j : Nat), ∃ (evs6 : List Evt), ∃ (w6 : Wrld), ∃ (hj : n_ + j = 4), ∃ (hw6 : FineX w6), ∃ (he6 : evs6.length ≤ 10 * k + 6 + j), s = mkSt 120 [(0, .box 0 (IsLens.whole Rd)), (4, .box 5 (IsLens.whole WrldS)), (5, .v bad), (6, .box 6 (IsLens.whole WrldS)), (8, .v (OList.mk evs6 true)), (9, .v (n0 - (k : Int))), (14, .v ((j : Int) + 1))] [(0, .cell r2), (1, .arr (Wrld.nodes w6 |>.map sN)), (5, .cell WrldS.zero), (6, .cell (sW w6))]) (4) ⟨0, evs5, w5, by omega, hw5, by omega, rfl⟩ (Le.mk rfl (tlb rfl rfl rfl (tlb rfl rfl rfl (tle rfl (rfl) rfl (tlb rfl rfl rfl (tle rfl (rfl) rfl (tle rfl (rfl) rfl (tle rfl (by rfl) rfl tln))))))) (olk rfl (by exact obOk_cell) (olk rfl (by exact obOkNs) (olk rfl (by exact obOkS0) (olk rfl (by exact obOkS rfl) oln)))) (hS_sub (a := [(0, .cell r)]) rfl)) ?_
      rintro n_ s ⟨j, evs6, w6, hj, hw6, he6, rfl⟩
      have hll := hw6.ll
      all_goals refine awp_seq (awp_seq (awp_region (id := 20) ?_))
      all_goals refine awpOps_cons (op_mv rfl (Conv.of rfl) rfl) ?_
      all_goals refine awpOps_cons (op_leq rfl rfl rfl) ?_
      all_goals refine awpOps_cons (op_mv rfl (Conv.of rfl) rfl) ?_
      all_goals refine g_split (t := 78) rfl (fun h => ?_) (fun h => ?_)
      all_goals first | refine awpOps_cons (g_off rfl rfl rfl rfl rfl) ?_ | refine awpOps_cons (g_on rfl rfl rfl (op_fab f29_2_WrldS rfl rfl)) ?_
      all_goals first | refine awpOps_cons (g_off rfl rfl rfl rfl rfl) ?_ | refine awpOps_cons (g_on rfl rfl rfl (op_ldl ty27_OListVote rfl rfl rfl)) ?_
      all_goals first | refine awpOps_cons (g_off rfl rfl rfl rfl rfl) ?_ | refine awpOps_cons (g_on rfl rfl rfl (op_len sl27 rfl rfl)) ?_
      all_goals first | refine awpOps_cons (g_off rfl rfl rfl rfl rfl) ?_ | refine awpOps_cons (g_on rfl rfl rfl (op_gtr rfl rfl rfl)) ?_
      all_goals refine awpOps_cons (op_pick rfl rfl rfl rfl) ?_
      all_goals refine awpOps_nil ?_
      · refine awp_cond rfl (fun h2 => ?_) (fun h2 => ?_)
        · have hj4 : j < 4 := by have := of_decide_eq_true h; omega
          refine awp_skip ?_
          refine awp_seq (awp_block ?_)
          all_goals refine awp_seq (awp_region (id := 22) ?_)
          all_goals refine awpOps_cons (op_fab f29_2_WrldS rfl rfl) ?_
          all_goals refine awpOps_cons (op_ldl ty27_OListVote rfl rfl rfl) ?_
          all_goals refine awpOps_cons (op_len sl27 rfl rfl) ?_
          all_goals refine awpOps_cons (op_sub rfl rfl rfl (by (simp only [sW]; omega))) ?_
          all_goals refine awpOps_cons (op_mv rfl (Conv.of rfl) rfl) ?_
          all_goals refine awpOps_cons (op_build (.cons f78_0 rfl (Conv.of rfl) (.cons f78_1 rfl (Conv.of rfl) (.cons f78_2 rfl (Conv.of rfl) (.nil _)))) z78 rfl pl78 rfl) ?_
          all_goals refine awpOps_cons (op_alloc (o := 9) z78 rfl rfl) ?_
          all_goals refine awpOps_cons (op_st ty78 rfl rfl (Conv.of rfl) rfl) ?_
          all_goals refine awpOps_nil ?_
          all_goals refine awp_seq (awp_region (id := 23) ?_)
          all_goals refine awpOps_cons (op_mvl rfl rfl rfl rfl) ?_
          all_goals refine awpOps_cons (op_ld ty78 rfl rfl rfl) ?_
          all_goals refine awpOps_cons (op_bsl sl23 z78 (.cons rfl (Conv.of rfl) (.nil _)) rfl (by decide) rfl) ?_
          all_goals refine awpOps_cons (op_app sl23 z78 ul23 rfl rfl rfl (by (simp; omega)) (by (simp; omega)) rfl rfl) ?_
          all_goals refine awpOps_cons (op_asl rfl rfl rfl rfl) ?_
          all_goals refine awpOps_nil ?_
          all_goals refine awp_region (id := 24) ?_
          all_goals refine awpOps_cons (op_ldm ty29_WrldS rfl rfl rfl) ?_
          all_goals refine awpOps_cons (op_ld ty78 rfl rfl rfl) ?_
          all_goals refine awpOps_cons (op_callM (s := 96) (pre := []) fb58 (.nil _) rfl (.cons rfl (Conv.of rfl) (.nil _)) (l21Do_ct w6 _ hw6) (olsk rfl ols0) (oksk (by exact obOkNs) oks0) (oksk (by exact obOkNs) oks0) rfl argO0 (argOk' rfl rfl argO0) (inOne rfl) (inOne rfl) rfl) ?_
          all_goals refine awpOps_cons (op_stm ty29_WrldS rfl rfl rfl) ?_
          all_goals refine awpOps_nil ?_
          all_goals refine awp_region (id := 21) ?_
          all_goals refine awpOps_cons (op_mv rfl (Conv.of rfl) rfl) ?_
          all_goals refine awpOps_cons (op_add rfl rfl rfl (by omega)) ?_
          all_goals refine awpOps_cons (op_as rfl (Conv.of rfl) rfl) ?_
          all_goals refine awpOps_nil ?_
          repeat first | refine nx_seq ?_ | refine nx_block ?_
          exact ⟨n_ - 1, _, by omega, ⟨j + 1, _, _, by omega, doF_ok _ hw6, by simp; omega, rfl⟩, Le.mk rfl (tlb rfl rfl rfl (tlb rfl rfl rfl (tle rfl (rfl) rfl (tlb rfl rfl rfl (tle rfl (rfl) rfl (tle rfl (rfl) rfl (tle rfl (by rfl) rfl tln))))))) (olk rfl (by exact obOk_cell) (olk rfl (by exact obOkNs) (olk rfl (by exact obOkS0) (olk rfl (by exact obOkS rfl) oln)))) (hS_sub (a := [(0, .cell r)]) rfl)⟩
        · refine awp_exit ?_
          repeat refine ex_seq ?_
          refine ex_block ?_
          exact nx_block (nx_seq ⟨(evs6, w6), ⟨hw6, by simp only; omega⟩, Le.mk rfl (tlb rfl rfl rfl (tlb rfl rfl rfl (tle rfl (rfl) rfl (tlb rfl rfl rfl (tle rfl (rfl) rfl (tle rfl (rfl) rfl tln)))))) (olk rfl (by exact obOk_cell) (olk rfl (by exact obOkNs) (olk rfl (by exact obOkS0) (olk rfl (by exact obOkS rfl) oln)))) (hS_sub (a := [(0, .cell r)]) rfl)⟩)
      · refine awp_cond rfl (fun h2 => absurd h2 (by decide)) (fun h2 => ?_)
        refine awp_exit ?_
        repeat refine ex_seq ?_
        refine ex_block ?_
        exact nx_block (nx_seq ⟨(evs6, w6), ⟨hw6, by simp only; omega⟩, Le.mk rfl (tlb rfl rfl rfl (tlb rfl rfl rfl (tle rfl (rfl) rfl (tlb rfl rfl rfl (tle rfl (rfl) rfl (tle rfl (rfl) rfl tln)))))) (olk rfl (by exact obOk_cell) (olk rfl (by exact obOkNs) (olk rfl (by exact obOkS0) (olk rfl (by exact obOkS rfl) oln)))) (hS_sub (a := [(0, .cell r)]) rfl)⟩)
    rintro ⟨evs7, w7⟩ ⟨hw7, he7⟩
    simp only at hw7 he7 ⊢
    all_goals refine awp_region (id := 6) ?_
    all_goals refine awpOps_cons (op_mv rfl (Conv.of rfl) rfl) ?_
    all_goals refine awpOps_cons (op_sub rfl rfl rfl (by omega)) ?_
    all_goals refine awpOps_cons (op_as rfl (Conv.of rfl) rfl) ?_
    all_goals refine awpOps_nil ?_
    repeat first | refine nx_seq ?_ | refine nx_block ?_
    exact ⟨n_ - 1, _, by omega, ⟨k + 1, evs7, w7, r2, by omega, hw7, by omega, hf3.weak (by omega), rfl⟩, Le.mk rfl (tlb rfl rfl rfl (tlb rfl rfl rfl (tle rfl (rfl) rfl (tlb rfl rfl rfl (tle rfl (rfl) rfl (tle rfl (by (show AV.v _ = AV.v _; congr 1; omega)) rfl tln)))))) (olk rfl (by exact obOk_cell) (olk rfl (by exact obOkNs) (olk rfl (by exact obOkS0) (olk rfl (by exact obOkS rfl) oln)))) (hS_sub (a := [(0, .cell r)]) rfl)⟩
  · refine awp_exit ?_
    repeat refine ex_seq ?_
    refine ex_block ?_
    have hff : Far 2000 r1 := hf.weak (by omega)
    clear hf hk h hq1 hq1' hq0 hq0' hf1 hf2 hp
    have he40 : evs.length ≤ 40 := by omega
    clear he hk4
    refine awp_seq_ex (ι := List Evt × Wrld × Rd) (fun i => mkSt 120 [(0, .box 0 (IsLens.whole Rd)), (4, .box 5 (IsLens.whole WrldS)), (5, .v bad), (6, .box 6 (IsLens.whole WrldS)), (8, .v (OList.mk i.1 true))] [(0, .cell i.2.2), (1, .arr (Wrld.nodes i.2.1 |>.map sN)), (5, .cell WrldS.zero), (6, .cell (sW i.2.1))]) (fun i => FineX i.2.1 ∧ i.1.length ≤ 100 ∧ Far 20000 i.2.2) ?_ ?_
    · refine awp_block ?_
      refine awp_loop' (fun n_ s => ∃ (evs2 : List Evt), ∃ (w2 : Wrld), ∃ (r2 : Rd), ∃ (hj : n_ + evs2.length = 200), ∃ (hw2 : FineX w2), ∃ (he2 : evs2.length ≤ 100), ∃ (hf2 : Far (2000 + 130 * (evs2.length : Int)) r2), s = mkSt 120 [(0, .box 0 (IsLens.whole Rd)), (4, .box 5 (IsLens.whole WrldS)), (5, .v bad), (6, .box 6 (IsLens.whole WrldS)), (8, .v (OList.mk evs2 true))] [(0, .cell r2), (1, .arr (Wrld.nodes w2 |>.map sN)), (5, .cell WrldS.zero), (6, .cell (sW w2))]) (200 - evs.length) ⟨evs, w, r1, by omega, hw, by omega, hff.weak (by omega), rfl⟩ (Le.mk rfl (tlb rfl rfl rfl (tlb rfl rfl rfl (tle rfl (rfl) rfl (tlb rfl rfl rfl (tle rfl (rfl) rfl tln))))) (olk rfl (by exact obOk_cell) (olk rfl (by exact obOkNs) (olk rfl (by exact obOkS0) (olk rfl (by exact obOkS rfl) oln)))) (hS_sub (a := [(0, .cell r)]) rfl)) ?_
      rintro n_ s ⟨evs2, w2, r2, hj, hw2, he2, hf2, rfl⟩
      have hf3 : Far (2001 + 130 * (evs2.length : Int)) (nx r2 1) := hf2.nx (by omega) (by omega)
      all_goals refine awp_seq (awp_seq (awp_region (id := 25) ?_))
      all_goals refine awpOps_cons (op_mv rfl Conv.ol rfl) ?_
      all_goals refine awpOps_cons (op_len sl23 rfl rfl) ?_
      all_goals refine awpOps_cons (op_lss rfl rfl rfl) ?_
      all_goals refine awpOps_cons (op_mv rfl (Conv.of rfl) rfl) ?_
      all_goals refine g_split (t := 102) rfl (fun h => ?_) (fun h => ?_)
      all_goals first | refine awpOps_cons (g_off rfl rfl rfl rfl rfl) ?_ | refine awpOps_cons (g_on rfl rfl rfl (op_mv rfl (Conv.of rfl) rfl)) ?_
      all_goals first | refine awpOps_cons (g_off rfl rfl rfl rfl rfl) ?_ | refine awpOps_cons (g_on rfl rfl rfl (op_callO fb54 (.cons rfl (Conv.of rfl) (.cons rfl (Conv.of rfl) (.nil _))) (pick_ct r2 40 (by unfold Far at hf2; omega)) (olsk rfl ols0) (oksk (by exact obOk_cell) oks0) (oksk (by exact obOk_cell) oks0) rfl (argOb rfl rfl rfl (argOk' rfl rfl argO0)) (fun o ho => by cases ho) rfl)) ?_
      all_goals first | refine awpOps_cons (g_off rfl rfl rfl rfl rfl) ?_ | refine awpOps_cons (g_on rfl rfl rfl (op_gtr rfl rfl rfl)) ?_
      all_goals refine awpOps_cons (op_pick rfl rfl rfl rfl) ?_
      all_goals refine awpOps_nil ?_
      · have h69 : evs2.length < 69 := by have := of_decide_eq_true h; omega
        refine awp_cond rfl (fun h2 => ?_) (fun h2 => ?_)
        · refine awp_skip ?_
          refine awp_block ?_
          all_goals refine awp_seq (awp_region (id := 26) ?_)
          all_goals refine awpOps_cons (op_mv rfl (Conv.of rfl) rfl) ?_
          all_goals refine awpOps_cons (op_ldd ty29_WrldS rfl rfl rfl) ?_
          refine awpOps_callE (ι := Evt × Rd) (ro (nx r2 1) w2) (fun i => .v i.1) (fun i => ro i.2 w2) (fun i => (nx r2 1).p ≤ i.2.p ∧ i.2.p ≤ (nx r2 1).p + 120) rfl fb109 (.cons rfl (Conv.of rfl) (.cons rfl (Conv.of rfl) (.nil _))) (l72Event_ct (nx r2 1) w2 hw2 (hf3.weak (by omega))) (fun r h' ⟨v, r', e1, e2, e3, e4⟩ => ⟨(v, r'), e1, e2, e3, e4⟩) (olsk rfl (olsk rfl ols0)) (oksk obOk_cell (oksk obOkNs oks0)) (argOb rfl rfl rfl (argOb rfl rfl rfl argO0)) rfl (fun i => rfl) (fun i => oksk obOk_cell (oksk obOkNs oks0)) (fun i o ho => by cases ho) ?_
          rintro ⟨e, r3⟩ ⟨q1, q2⟩
          simp only at q1 q2 ⊢
          have hf4 : Far (2130 + 130 * (evs2.length : Int)) r3 := by unfold Far at hf3 ⊢; omega
          all_goals refine awpOps_cons (op_alloc (o := 10) z78 rfl rfl) ?_
          all_goals refine awpOps_cons (op_st ty78 rfl rfl (Conv.of rfl) rfl) ?_
          all_goals refine awpOps_nil ?_
          all_goals refine awp_seq (awp_region (id := 27) ?_)
          all_goals refine awpOps_cons (op_mvl rfl rfl rfl rfl) ?_
          all_goals refine awpOps_cons (op_ld ty78 rfl rfl rfl) ?_
          all_goals refine awpOps_cons (op_bsl sl23 z78 (.cons rfl (Conv.of rfl) (.nil _)) rfl (by decide) rfl) ?_
          all_goals refine awpOps_cons (op_app sl23 z78 ul23 rfl rfl rfl (by (simp; omega)) (by (simp; omega)) rfl rfl) ?_
          all_goals refine awpOps_cons (op_asl rfl rfl rfl rfl) ?_
          all_goals refine awpOps_nil ?_
          all_goals refine awp_region (id := 28) ?_
          all_goals refine awpOps_cons (op_ldm ty29_WrldS rfl rfl rfl) ?_
          all_goals refine awpOps_cons (op_ld ty78 rfl rfl rfl) ?_
          all_goals refine awpOps_cons (op_callM (s := 114) (pre := []) fb58 (.nil _) rfl (.cons rfl (Conv.of rfl) (.nil _)) (l21Do_ct w2 _ hw2) (olsk rfl ols0) (oksk (by exact obOkNs) oks0) (oksk (by exact obOkNs) oks0) rfl argO0 (argOk' rfl rfl argO0) (inOne rfl) (inOne rfl) rfl) ?_
          all_goals refine awpOps_cons (op_stm ty29_WrldS rfl rfl rfl) ?_
          all_goals refine awpOps_nil ?_
          repeat first | refine nx_seq ?_ | refine nx_block ?_
          exact ⟨n_ - 1, _, by omega, ⟨evs2 ++ [e], doF w2 e, r3, by simp; omega, doF_ok _ hw2, by simp; omega, hf4.weak (by simp; omega), rfl⟩, Le.mk rfl (tlb rfl rfl rfl (tlb rfl rfl rfl (tle rfl (rfl) rfl (tlb rfl rfl rfl (tle rfl (rfl) rfl tln))))) (olk rfl (by exact obOk_cell) (olk rfl (by exact obOkNs) (olk rfl (by exact obOkS0) (olk rfl (by exact obOkS rfl) oln)))) (hS_sub (a := [(0, .cell r)]) rfl)⟩
        · refine awp_exit ?_
          repeat refine ex_seq ?_
          refine ex_block ?_
          exact nx_seq ⟨(evs2, w2, nx r2 1), ⟨hw2, by simp only; omega, by simp only; exact Far.weak hf3 (by omega)⟩, Le.mk rfl (tlb rfl rfl rfl (tlb rfl rfl rfl (tle rfl (rfl) rfl (tlb rfl rfl rfl (tle rfl (rfl) rfl tln))))) (olk rfl (by exact obOk_cell) (olk rfl (by exact obOkNs) (olk rfl (by exact obOkS0) (olk rfl (by exact obOkS rfl) oln)))) (hS_sub (a := [(0, .cell r)]) rfl)⟩
      · refine awp_cond rfl (fun h2 => absurd h2 (by decide)) (fun h2 => ?_)
        refine awp_exit ?_
        repeat refine ex_seq ?_
        refine ex_block ?_
        exact nx_seq ⟨(evs2, w2, r2), ⟨hw2, by simp only; omega, by simp only; exact Far.weak hf2 (by omega)⟩, Le.mk rfl (tlb rfl rfl rfl (tlb rfl rfl rfl (tle rfl (rfl) rfl (tlb rfl rfl rfl (tle rfl (rfl) rfl tln))))) (olk rfl (by exact obOk_cell) (olk rfl (by exact obOkNs) (olk rfl (by exact obOkS0) (olk rfl (by exact obOkS rfl) oln)))) (hS_sub (a := [(0, .cell r)]) rfl)⟩
    · rintro ⟨evs3, w3, r3⟩ ⟨hw3, he3, hf3⟩
      simp only at hw3 he3 hf3 ⊢
      all_goals refine awp_seq (dr_start (id := 29) ?_)
      all_goals refine dr_cons (op_mv rfl (Conv.of rfl) rfl) ?_
      all_goals refine dr_cons (op_mvl rfl rfl rfl rfl) ?_
      all_goals refine dr_cons (op_ldm ty29_WrldS rfl rfl rfl) ?_
      all_goals refine dr_cons (op_as rfl (Conv.of rfl) rfl) ?_
      all_goals refine dr_cons (op_asl rfl rfl rfl rfl) ?_
      all_goals refine dr_cons (op_stm ty29_WrldS rfl rfl rfl) ?_
      all_goals refine dr_nil mixed rfl ?_
      refine awp_ret ?_
      repeat first | refine rt_seq ?_ | refine rt_block ?_
      exact ⟨_, _, resNM (ol := ro r3 w3) (.keep (.v rfl (Conv.of rfl)) (.tmp rfl (.cell ty29_WrldS rfl rfl (.nil _)))) rfl (inOne rfl) (olk rfl obOk_cell (olk rfl obOkNs oln)) (hS_sub rfl), bad, evs3, w3, r3, rfl, rfl, he3, hb, hw3, hf3⟩
end Go.Proofs.YtmdhfalfppkpeaaGreat

/- The reference: a drawn play. -/
set_option linter.unusedVariables false
set_option linter.unusedSimpArgs false
namespace Go.Proofs.YtmdhfalfppkpeaaGreat
open Go Go.Wt
end Go.Proofs.YtmdhfalfppkpeaaGreat

/- What further draws give. -/
set_option linter.unusedVariables false
set_option linter.unusedSimpArgs false
namespace Go.Wt
def gi (l : List Int) (i : Int) : Int := l.getD i.toNat 0
theorem gi_get {l : List Int} {i : Int} (h0 : 0 ≤ i) (h : i < l.length) : l[i.toNat]? = some (gi l i) := by
  unfold gi
  rw [List.getD_eq_getElem?_getD, List.getElem?_eq_getElem (by omega)]; rfl
def anyPayF (r : Rd) : Pay × Rd :=
  if pk (nx r 3) 12 = 0 then ({ payV r with to := (payV r).frm }, nx r 4) else
  if pk (nx r 3) 12 = 1 then ({ payV r with sum := gi [0, 10] (pk (nx r 4) 2) }, nx r 5) else
  if pk (nx r 3) 12 = 2 then ({ payV r with frm := gi [0, 4] (pk (nx r 4) 2) }, nx r 5) else (payV r, nx r 4)
theorem anyPay_p (r : Rd) : r.p + 4 ≤ (anyPayF r).2.p ∧ (anyPayF r).2.p ≤ r.p + 5 := by
  unfold anyPayF
  repeat' split
  all_goals simp only [nx]
  all_goals omega
/-- A chain, seldom spoilt. -/
def offAt (c : List Itm) (r : Rd) : List Itm × Rd :=
  if pk r 16 = 0 then (c ++ [⟨pk (nx r 1) 4, (anyPayF (nx r 2)).1⟩], (anyPayF (nx r 2)).2) else
  if pk r 16 = 1 then (if 0 < c.length then (c.set (pk (nx r 1) c.length).toNat { c.getD (pk (nx r 1) c.length).toNat Itm.zero with epoch := gi [0, 30, 31] (pk (nx r 2) 3) }, nx r 3) else (c, nx r 1)) else
  if pk r 16 = 2 then (if 0 < c.length then (c.set (pk (nx r 1) c.length).toNat { c.getD (pk (nx r 1) c.length).toNat Itm.zero with pay := (anyPayF (nx r 2)).1 }, (anyPayF (nx r 2)).2) else (c, nx r 1)) else (c, nx r 1)
def offF (r : Rd) : List Itm × Rd := offAt (chainV r) (chainR r)
theorem offAt_p (c : List Itm) (r : Rd) : r.p ≤ (offAt c r).2.p ∧ (offAt c r).2.p ≤ r.p + 8 ∧ (offAt c r).1.length ≤ c.length + 1 := by
  have := anyPay_p (nx r 2)
  have e : (nx r 2).p = r.p + 2 := rfl
  unfold offAt
  repeat' split
  all_goals simp only [nx, List.length_append, List.length_set, List.length_cons, List.length_nil] at *
  all_goals omega
theorem off_far {m m' : Int} {r : Rd} (h : Far m r) (hm : m ≤ 900000) (hm' : m + 40 ≤ m') : Far m' (offF r).2 := by
  have h1 := chainR_far h (by omega)
  have := offAt_p (chainV r) (chainR r)
  unfold offF
  unfold Far at *
  omega
theorem off_len {m : Int} {r : Rd} (h : Far m r) (hm : m ≤ 900000) : (offF r).1.length ≤ 7 := by
  have h1 := chainV_len h (by omega)
  have := offAt_p (chainV r) (chainR r)
  unfold offF
  omega
theorem chainR_ge {m : Int} {r : Rd} (h : Far m r) (hm : m ≤ 1000000) : r.p ≤ (chainR r).p := by
  have := pk_bd h hm 7
  rw [chainR_eq]; simp only [nx]; omega
theorem off_ge {m : Int} {r : Rd} (h : Far m r) (hm : m ≤ 900000) : r.p ≤ (offF r).2.p := by
  have h1 := chainR_ge h (by omega)
  have := offAt_p (chainV r) (chainR r)
  unfold offF
  omega
/-- A vote's chain, if nothing is drawn. -/
def voteC (c : List Itm) (r : Rd) : List Itm × Rd :=
  if c.length = 0 then (if 0 < pk r 4 then ([⟨1 + pk (nx r 1) 3, payV (nx r 2)⟩], nx r 5) else (c, nx r 1)) else (c, r)
def voteB (b : Int) (r : Rd) : Int × Rd := if pk r 16 = 0 then (gi [0, 5] (pk (nx r 1) 2), nx r 2) else (b, nx r 1)
def voteDF (r : Rd) : Vote × Rd :=
  (⟨(voteB (1 + pk r 4) (voteC (offF (nx r 1)).1 (offF (nx r 1)).2).2).1, (voteC (offF (nx r 1)).1 (offF (nx r 1)).2).1⟩, (voteB (1 + pk r 4) (voteC (offF (nx r 1)).1 (offF (nx r 1)).2).2).2)
theorem voteC_p (c : List Itm) (r : Rd) : r.p ≤ (voteC c r).2.p ∧ (voteC c r).2.p ≤ r.p + 5 ∧ (voteC c r).1.length ≤ c.length + 1 := by
  unfold voteC
  repeat' split
  all_goals simp only [nx, List.length_cons, List.length_nil]
  all_goals omega
theorem voteB_p (b : Int) (r : Rd) : r.p ≤ (voteB b r).2.p ∧ (voteB b r).2.p ≤ r.p + 2 := by
  unfold voteB
  split <;> simp only [nx] <;> omega
theorem voteD_p {m : Int} {r : Rd} (h : Far m r) (hm : m ≤ 800000) : r.p ≤ (voteDF r).2.p ∧ (voteDF r).2.p ≤ m + 60 ∧ (voteDF r).1.chain.length ≤ 8 := by
  have h1 : Far (m + 1) (nx r 1) := h.nx (by omega) (by omega)
  have h2 := off_far h1 (by omega) (Int.le_refl _)
  have h2' := off_ge h1 (by omega)
  have h3 := off_len h1 (by omega)
  have h4 := voteC_p (offF (nx r 1)).1 (offF (nx r 1)).2
  have h5 := voteB_p (1 + pk r 4) (voteC (offF (nx r 1)).1 (offF (nx r 1)).2).2
  have e : (nx r 1).p = r.p + 1 := rfl
  unfold voteDF
  unfold Far at h2
  simp only
  omega
theorem voteD_far {m m' : Int} {r : Rd} (h : Far m r) (hm : m ≤ 800000) (hm' : m + 60 ≤ m') : Far m' (voteDF r).2 := by
  have := voteD_p h hm
  unfold Far at *
  omega
instance (n : Nod) : Grow Vote (.v (sN n).seen) n.seen := inferInstanceAs (Grow Vote (.v (OList.mk n.seen true)) n.seen)
instance (w : Wrld) : Grow Vote (.v (sW w).log) w.log := inferInstanceAs (Grow Vote (.v (OList.mk w.log true)) w.log)
/-- A world of a drawn one's size. -/
structure Lw (w : Wrld) : Prop where
  ep : -100 ≤ w.epoch ∧ w.epoch ≤ 100
  four : w.nodes.length = 4
  ll : w.log.length ≤ 100
  lc : ∀ v ∈ w.log, v.chain.length ≤ 30
  sl : ∀ n ∈ w.nodes, n.seen.length ≤ 100 ∧ ∀ v ∈ n.seen, v.chain.length ≤ 30
theorem FineX.lw {w : Wrld} (h : FineX w) : Lw w :=
  ⟨by have := h.fine.ep; omega, h.four, by have := h.fine.ll; omega, fun v hv => by have := chainOk_len (voteOk_chain (h.fine.log.ok v hv)); omega, fun n hn =>
    ⟨by have := h.fine.sl n hn; omega, fun v hv => by have := chainOk_len (voteOk_chain ((h.fine.seen n hn).ok v hv)); omega⟩⟩
end Go.Wt
