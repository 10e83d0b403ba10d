/- Part 3 of the proof: texts one behind the other. -/
import Derived.Test.YtmabpmlcclgecaaM2
import Derived.Laws.Small
/- The reference: payments, chains, votes. -/
set_option linter.unusedVariables false
set_option linter.unusedSimpArgs false
namespace Go.Proofs.Ytmabpmlcclgecaa
open Go Go.Wt
theorem l6In_ct (n lo hi : Int) : CtP Try.prog 51 [.v n, .v lo, .v hi] (.v (within n lo hi)) := by
  refine Ct.intro Try.func51 rfl rfl ?_
  all_goals refine awp_seq (awp_region (id := 0) ?_)
  all_goals refine awpOps_cons (op_as rfl (Conv.of rfl) rfl) ?_
  all_goals refine awpOps_nil ?_
  all_goals refine awp_seq (awp_region (id := 1) ?_)
  all_goals refine awpOps_cons (op_mv rfl (Conv.of rfl) rfl) ?_
  all_goals refine awpOps_cons (op_mv rfl (Conv.of rfl) rfl) ?_
  all_goals refine awpOps_cons (op_geq rfl rfl rfl) ?_
  all_goals refine awpOps_cons (op_mv rfl (Conv.of rfl) rfl) ?_
  all_goals refine g_split (t := 10) rfl (fun h => ?_) (fun h => ?_)
  all_goals first | refine awpOps_cons (g_off rfl rfl rfl rfl rfl) ?_ | refine awpOps_cons (g_on rfl rfl rfl (op_mv rfl (Conv.of rfl) rfl)) ?_
  all_goals first | refine awpOps_cons (g_off rfl rfl rfl rfl rfl) ?_ | refine awpOps_cons (g_on rfl rfl rfl (op_mv rfl (Conv.of rfl) rfl)) ?_
  all_goals first | refine awpOps_cons (g_off rfl rfl rfl rfl rfl) ?_ | refine awpOps_cons (g_on rfl rfl rfl (op_leq rfl rfl rfl)) ?_
  all_goals refine awpOps_cons (op_pick rfl rfl rfl rfl) ?_
  all_goals refine awpOps_cons (op_as rfl (Conv.of rfl) rfl) ?_
  all_goals refine awpOps_nil ?_
  all_goals refine awp_ret ?_
  all_goals refine finP (.v rfl (Conv.of rfl)) rfl ?_
  all_goals (simp only [FV.av, within]; first | (rw [h]; rfl) | simp_all)
theorem sPayOk_ct (p : Pay) : CtP Try.prog 113 [.v p] (.v (payOk p)) := by
  refine Ct.intro Try.func113 rfl rfl ?_
  all_goals refine awp_seq (awp_region (id := 0) ?_)
  all_goals refine awpOps_cons (op_box (o := 0) ty36 rfl (Conv.of rfl) rfl rfl) ?_
  all_goals refine awpOps_cons (op_as rfl (Conv.of rfl) rfl) ?_
  all_goals refine awpOps_nil ?_
  all_goals refine awp_seq (awp_region (id := 1) ?_)
  all_goals refine awpOps_cons (op_fab f36_0 rfl rfl) ?_
  all_goals refine awpOps_cons (op_ld ty3 rfl rfl rfl) ?_
  all_goals refine awpOps_cons (op_call fb51 (.cons rfl (Conv.of rfl) (.cons rfl (Conv.of rfl) (.cons rfl (Conv.of rfl) (.nil _)))) (l6In_ct _ _ _) (argOk rfl rfl (argOk rfl rfl (argOk rfl rfl argOk0))) rfl rfl) ?_
  all_goals refine awpOps_cons (op_mv rfl (Conv.of rfl) rfl) ?_
  all_goals refine g_split (t := 6) rfl (fun h => ?_) (fun h => ?_)
  all_goals first | refine awpOps_cons (g_off rfl rfl rfl rfl rfl) ?_ | refine awpOps_cons (g_on rfl rfl rfl (op_fab f36_1 rfl rfl)) ?_
  all_goals first | refine awpOps_cons (g_off rfl rfl rfl rfl rfl) ?_ | refine awpOps_cons (g_on rfl rfl rfl (op_ld ty3 rfl rfl rfl)) ?_
  all_goals first | refine awpOps_cons (g_off rfl rfl rfl rfl rfl) ?_ | refine awpOps_cons (g_on rfl rfl rfl (op_call fb51 (.cons rfl (Conv.of rfl) (.cons rfl (Conv.of rfl) (.cons rfl (Conv.of rfl) (.nil _)))) (l6In_ct _ _ _) (argOk rfl rfl (argOk rfl rfl (argOk rfl rfl argOk0))) rfl rfl)) ?_
  all_goals refine awpOps_cons (op_pick rfl rfl rfl rfl) ?_
  all_goals refine awpOps_cons (op_mv rfl (Conv.of rfl) rfl) ?_
  all_goals first | refine g_lit (t := 11) (b := false) rfl ?_ | refine g_split (t := 11) rfl (fun h => ?_) (fun h => ?_)
  all_goals first | refine awpOps_cons (g_off rfl rfl rfl rfl rfl) ?_ | refine awpOps_cons (g_on rfl rfl rfl (op_fab f36_0 rfl rfl)) ?_
  all_goals first | refine awpOps_cons (g_off rfl rfl rfl rfl rfl) ?_ | refine awpOps_cons (g_on rfl rfl rfl (op_ld ty3 rfl rfl rfl)) ?_
  all_goals first | refine awpOps_cons (g_off rfl rfl rfl rfl rfl) ?_ | refine awpOps_cons (g_on rfl rfl rfl (op_fab f36_1 rfl rfl)) ?_
  all_goals first | refine awpOps_cons (g_off rfl rfl rfl rfl rfl) ?_ | refine awpOps_cons (g_on rfl rfl rfl (op_ld ty3 rfl rfl rfl)) ?_
  all_goals first | refine awpOps_cons (g_off rfl rfl rfl rfl rfl) ?_ | refine awpOps_cons (g_on rfl rfl rfl (op_neq rfl rfl rfl)) ?_
  all_goals refine awpOps_cons (op_pick rfl rfl rfl rfl) ?_
  all_goals refine awpOps_cons (op_mv rfl (Conv.of rfl) rfl) ?_
  all_goals first | refine g_lit (t := 18) (b := false) rfl ?_ | refine g_split (t := 18) rfl (fun h => ?_) (fun h => ?_)
  all_goals first | refine awpOps_cons (g_off rfl rfl rfl rfl rfl) ?_ | refine awpOps_cons (g_on rfl rfl rfl (op_fab f36_2 rfl rfl)) ?_
  all_goals first | refine awpOps_cons (g_off rfl rfl rfl rfl rfl) ?_ | refine awpOps_cons (g_on rfl rfl rfl (op_ld ty3 rfl rfl rfl)) ?_
  all_goals first | refine awpOps_cons (g_off rfl rfl rfl rfl rfl) ?_ | refine awpOps_cons (g_on rfl rfl rfl (op_call fb51 (.cons rfl (Conv.of rfl) (.cons rfl (Conv.of rfl) (.cons rfl (Conv.of rfl) (.nil _)))) (l6In_ct _ _ _) (argOk rfl rfl (argOk rfl rfl (argOk rfl rfl argOk0))) rfl rfl)) ?_
  all_goals refine awpOps_cons (op_pick rfl rfl rfl rfl) ?_
  all_goals refine awpOps_cons (op_as rfl (Conv.of rfl) rfl) ?_
  all_goals refine awpOps_nil ?_
  all_goals refine awp_ret ?_
  all_goals refine finP (.v rfl (Conv.of rfl)) rfl ?_
  all_goals simp_all [FV.av, payOk]
set_option maxHeartbeats 1000000 in
theorem sChainOk_ct (c : List Itm) : CtP Try.prog 86 [.v c] (.v (chainOk c)) := by
  refine Ct.intro Try.func86 rfl rfl ?_
  refine awp_bigL 0 rfl (fun hB => ?_)
  all_goals refine awp_seq (awp_region (id := 0) ?_)
  all_goals refine awpOps_cons (op_as rfl (Conv.of rfl) rfl) ?_
  all_goals refine awpOps_nil ?_
  all_goals refine awp_seq (awp_seq (awp_region (id := 1) ?_))
  all_goals refine awpOps_cons (op_as rfl (Conv.of rfl) rfl) ?_
  all_goals refine awpOps_nil ?_
  refine awp_block ?_
  refine awp_loop' (fun n s => ∃ (k : Nat), ∃ (hn : n + k = c.length), ∃ (hall : ∀ (j : Nat) (x : Itm), j < k → c[j]? = some x → itemOk c j x = true), s = mkSt 47 [(0, .v c), (3, .v (k : Int))] []) (c.length) ⟨0, by omega, fun j x h => by omega, rfl⟩ (Le.mk rfl (tle rfl (rfl) rfl (tle rfl (rfl) rfl tln)) oln noS) ?_
  rintro n s ⟨k, hn, hall, rfl⟩
  all_goals refine awp_seq (awp_seq (awp_region (id := 2) ?_))
  all_goals refine awpOps_cons (op_mv rfl (Conv.of rfl) rfl) ?_
  all_goals refine awpOps_cons (op_mv rfl (Conv.of rfl) rfl) ?_
  all_goals refine awpOps_cons (op_len sl26 rfl rfl) ?_
  all_goals refine awpOps_cons (op_lss rfl rfl rfl) ?_
  all_goals refine awpOps_nil ?_
  refine awp_cond rfl (fun h => ?_) (fun h => ?_)
  · have hlt : k < c.length := by simpa using h
    have hx : c[k]? = some c[k] := List.getElem?_eq_getElem hlt
    refine awp_skip ?_
    refine awp_seq (awp_block ?_)
    have hprev : decide ((0 : Int) < k) = true → 0 ≤ (k : Int) - 1 ∧ c[((k : Int) - 1).toNat]? = some (c[k - 1]'(by omega)) := by
      intro h0
      have h1 : 0 < k := by simpa using h0
      have e : ((k : Int) - 1).toNat = k - 1 := by omega
      exact ⟨by omega, by rw [e]; exact List.getElem?_eq_getElem (by omega)⟩
    refine awp_seq_to (s' := mkSt 47 [(0, .v c), (3, .v (k : Int)), (43, .v (!itemOk c k c[k]))] []) ?_ ?_
    · all_goals refine dr_start (id := 4) ?_
      all_goals refine dr_cons (op_mv rfl (Conv.of rfl) rfl) ?_
      all_goals refine dr_cons (op_mv rfl (Conv.of rfl) rfl) ?_
      all_goals refine dr_cons (op_ix sl26 rfl rfl rfl (by omega) hx) ?_
      all_goals refine dr_cons (op_far f38_0 rfl rfl) ?_
      all_goals refine dr_cons (op_ldr ty3 rfl rfl) ?_
      all_goals refine dr_cons (op_call fb51 (.cons rfl (Conv.of rfl) (.cons rfl (Conv.of rfl) (.cons rfl (Conv.of rfl) (.nil _)))) (l6In_ct _ _ _) (argOk rfl rfl (argOk rfl rfl (argOk rfl rfl argOk0))) rfl rfl) ?_
      all_goals refine dr_cons (op_not rfl rfl) ?_
      all_goals refine dr_cons (op_mv rfl (Conv.of rfl) rfl) ?_
      all_goals refine dr_split (t := 17) rfl (fun h => ?_) (fun h => ?_)
      all_goals first | refine dr_cons (g_off rfl rfl rfl rfl rfl) ?_ | refine dr_cons (g_on rfl rfl rfl (op_mv rfl (Conv.of rfl) rfl)) ?_
      all_goals first | refine dr_cons (g_off rfl rfl rfl rfl rfl) ?_ | refine dr_cons (g_on rfl rfl rfl (op_mv rfl (Conv.of rfl) rfl)) ?_
      all_goals first | refine dr_cons (g_off rfl rfl rfl rfl rfl) ?_ | refine dr_cons (g_on rfl rfl rfl (op_ix sl26 rfl rfl rfl (by omega) hx)) ?_
      all_goals first | refine dr_cons (g_off rfl rfl rfl rfl rfl) ?_ | refine dr_cons (g_on rfl rfl rfl (op_far f38_1 rfl rfl)) ?_
      all_goals first | refine dr_cons (g_off rfl rfl rfl rfl rfl) ?_ | refine dr_cons (g_on rfl rfl rfl (op_ldr ty36 rfl rfl)) ?_
      all_goals first | refine dr_cons (g_off rfl rfl rfl rfl rfl) ?_ | refine dr_cons (g_on rfl rfl rfl (op_call fb113 (.cons rfl (Conv.of rfl) (.nil _)) (sPayOk_ct _) (argOk rfl rfl argOk0) rfl rfl)) ?_
      all_goals first | refine dr_cons (g_off rfl rfl rfl rfl rfl) ?_ | refine dr_cons (g_on rfl rfl rfl (op_not rfl rfl)) ?_
      all_goals refine dr_cons (op_pick rfl rfl rfl rfl) ?_
      all_goals refine dr_cons (op_mv rfl (Conv.of rfl) rfl) ?_
      all_goals first | refine dr_lit (t := 26) (b := true) rfl ?_ | refine dr_split (t := 26) rfl (fun h => ?_) (fun h => ?_)
      all_goals first | refine dr_cons (g_off rfl rfl rfl rfl rfl) ?_ | refine dr_cons (g_on rfl rfl rfl (op_mv rfl (Conv.of rfl) rfl)) ?_
      all_goals first | refine dr_cons (g_off rfl rfl rfl rfl rfl) ?_ | refine dr_cons (g_on rfl rfl rfl (op_gtr rfl rfl rfl)) ?_
      all_goals first | refine dr_cons (g_off rfl rfl rfl rfl rfl) ?_ | refine dr_cons (g_on rfl rfl rfl (op_mv rfl (Conv.of rfl) rfl)) ?_
      all_goals first | refine dr_ulit (t := 29) rfl ?_ | refine dr_split (t := 29) rfl (fun h => ?_) (fun h => ?_)
      all_goals first | refine dr_cons (g_off rfl rfl rfl rfl rfl) ?_ | refine dr_cons (g_und rfl rfl rfl) ?_ | refine dr_cons (g_on rfl rfl rfl (op_mv rfl (Conv.of rfl) rfl)) ?_
      all_goals first | refine dr_cons (g_off rfl rfl rfl rfl rfl) ?_ | refine dr_cons (g_und rfl rfl rfl) ?_ | refine dr_cons (g_on rfl rfl rfl (op_mv rfl (Conv.of rfl) rfl)) ?_
      all_goals first | refine dr_cons (g_off rfl rfl rfl rfl rfl) ?_ | refine dr_cons (g_und rfl rfl rfl) ?_ | refine dr_cons (g_on rfl rfl rfl (op_sub rfl rfl rfl (by omega))) ?_
      all_goals first | refine dr_cons (g_off rfl rfl rfl rfl rfl) ?_ | refine dr_cons (g_und rfl rfl rfl) ?_ | refine dr_cons (g_on rfl rfl rfl (op_ix sl26 rfl rfl rfl (hprev h).1 (hprev h).2)) ?_
      all_goals first | refine dr_cons (g_off rfl rfl rfl rfl rfl) ?_ | refine dr_cons (g_und rfl rfl rfl) ?_ | refine dr_cons (g_on rfl rfl rfl (op_far f38_0 rfl rfl)) ?_
      all_goals first | refine dr_cons (g_off rfl rfl rfl rfl rfl) ?_ | refine dr_cons (g_und rfl rfl rfl) ?_ | refine dr_cons (g_on rfl rfl rfl (op_ldr ty3 rfl rfl)) ?_
      all_goals first | refine dr_cons (g_off rfl rfl rfl rfl rfl) ?_ | refine dr_cons (g_und rfl rfl rfl) ?_ | refine dr_cons (g_on rfl rfl rfl (op_mv rfl (Conv.of rfl) rfl)) ?_
      all_goals first | refine dr_cons (g_off rfl rfl rfl rfl rfl) ?_ | refine dr_cons (g_und rfl rfl rfl) ?_ | refine dr_cons (g_on rfl rfl rfl (op_mv rfl (Conv.of rfl) rfl)) ?_
      all_goals first | refine dr_cons (g_off rfl rfl rfl rfl rfl) ?_ | refine dr_cons (g_und rfl rfl rfl) ?_ | refine dr_cons (g_on rfl rfl rfl (op_ix sl26 rfl rfl rfl (by omega) hx)) ?_
      all_goals first | refine dr_cons (g_off rfl rfl rfl rfl rfl) ?_ | refine dr_cons (g_und rfl rfl rfl) ?_ | refine dr_cons (g_on rfl rfl rfl (op_far f38_0 rfl rfl)) ?_
      all_goals first | refine dr_cons (g_off rfl rfl rfl rfl rfl) ?_ | refine dr_cons (g_und rfl rfl rfl) ?_ | refine dr_cons (g_on rfl rfl rfl (op_ldr ty3 rfl rfl)) ?_
      all_goals first | refine dr_cons (g_off rfl rfl rfl rfl rfl) ?_ | refine dr_cons (g_und rfl rfl rfl) ?_ | refine dr_cons (g_on rfl rfl rfl (op_geq rfl rfl rfl)) ?_
      all_goals first | refine dr_cons (g_off rfl rfl rfl rfl rfl) ?_ | refine dr_cons (g_on rfl rfl rfl (op_pick rfl rfl rfl rfl)) ?_
      all_goals refine dr_cons (op_pick rfl rfl rfl rfl) ?_
      all_goals refine dr_nil mixed rfl ?_
      all_goals exact Le.mk rfl (tle rfl (rfl) rfl (tle rfl (rfl) rfl (tle rfl (by (clear hall; simp_all [itemOk_nat, List.getElem?_eq_getElem (show k - 1 < c.length by omega)])) rfl tln))) oln noS
    refine awp_cond rfl (fun h => ?_) (fun h => ?_)
    · all_goals refine awp_seq (awp_region (id := 5) ?_)
      all_goals refine awpOps_cons (op_as rfl (Conv.of rfl) rfl) ?_
      all_goals refine awpOps_nil ?_
      refine awp_ret ?_
      repeat first | refine rt_seq ?_ | refine rt_block ?_
      refine finP (.v rfl (Conv.of rfl)) rfl ?_
      show AV.v false = _
      rw [chainOk_bad hx (not_t h)]
    · refine awp_skip ?_
      all_goals refine awp_region (id := 3) ?_
      all_goals refine awpOps_cons (op_mv rfl (Conv.of rfl) rfl) ?_
      all_goals refine awpOps_cons (op_add rfl rfl rfl (by omega)) ?_
      all_goals refine awpOps_cons (op_as rfl (Conv.of rfl) rfl) ?_
      all_goals refine awpOps_nil ?_
      repeat first | refine nx_seq ?_ | refine nx_block ?_
      exact ⟨n - 1, _, by omega, ⟨k + 1, by omega, fun j x hj hjx => chainOk_more hx hall (not_f h) hj hjx, rfl⟩, Le.mk rfl (tle rfl (rfl) rfl (tle rfl (rfl) rfl tln)) oln noS⟩
  · refine awp_exit ?_
    repeat refine ex_seq ?_
    refine ex_block ?_
    all_goals refine awp_seq (awp_region (id := 6) ?_)
    all_goals refine awpOps_cons (op_mv rfl (Conv.of rfl) rfl) ?_
    all_goals refine awpOps_cons (op_len sl26 rfl rfl) ?_
    all_goals refine awpOps_cons (op_leq rfl rfl rfl) ?_
    all_goals refine awpOps_cons (op_as rfl (Conv.of rfl) rfl) ?_
    all_goals refine awpOps_nil ?_
    refine awp_ret ?_
    repeat first | refine rt_seq ?_ | refine rt_block ?_
    refine finP (.v rfl (Conv.of rfl)) rfl ?_
    show AV.v _ = _
    rw [chainOk_good (k := k) (by simpa using h) hall]
theorem l3Leader_ct (n : Int) (hn : -1000 ≤ n ∧ n ≤ 1000000) : CtP Try.prog 35 [.v n] (.v (leadS n)) := by
  have ht1 := Int.tmod_lt_of_pos (n - 1) (show (0 : Int) < 4 by omega)
  have ht2 : -4 < (n - 1).tmod 4 := Int.lt_tmod_of_pos (n - 1) (show (0 : Int) < 4 by omega)
  refine Ct.intro Try.func35 rfl rfl ?_
  all_goals refine awp_seq (awp_region (id := 0) ?_)
  all_goals refine awpOps_cons (op_as rfl (Conv.of rfl) rfl) ?_
  all_goals refine awpOps_nil ?_
  all_goals refine awp_seq (awp_region (id := 1) ?_)
  all_goals refine awpOps_cons (op_mv rfl (Conv.of rfl) rfl) ?_
  all_goals refine awpOps_cons (op_sub rfl rfl rfl (by omega)) ?_
  all_goals refine awpOps_cons (op_rem rfl rfl rfl (by decide)) ?_
  all_goals refine awpOps_cons (op_add rfl rfl rfl (by omega)) ?_
  all_goals refine awpOps_cons (op_as rfl (Conv.of rfl) rfl) ?_
  all_goals refine awpOps_nil ?_
  refine awp_ret ?_
  repeat first | refine rt_seq ?_ | refine rt_block ?_
  exact finP (.v rfl (Conv.of rfl)) rfl rfl
theorem l1In_ct (a b : List Itm) : CtP Try.prog 121 [.v a, .v b] (.v (inS a b)) := by
  refine Ct.intro Try.func121 rfl rfl ?_
  refine awp_bigL 0 rfl (fun hB => ?_)
  all_goals refine awp_seq (awp_region (id := 0) ?_)
  all_goals refine awpOps_cons (op_as rfl (Conv.of rfl) rfl) ?_
  all_goals refine awpOps_nil ?_
  all_goals refine awp_seq (awp_seq (awp_region (id := 1) ?_))
  all_goals refine awpOps_cons (op_mv rfl (Conv.of rfl) rfl) ?_
  all_goals refine awpOps_cons (op_len sl26 rfl rfl) ?_
  all_goals refine awpOps_cons (op_mv rfl (Conv.of rfl) rfl) ?_
  all_goals refine awpOps_cons (op_len sl26 rfl rfl) ?_
  all_goals refine awpOps_cons (op_gtr rfl rfl rfl) ?_
  all_goals refine awpOps_nil ?_
  refine awp_cond rfl (fun h => ?_) (fun h => ?_)
  · all_goals refine awp_seq (awp_region (id := 2) ?_)
    all_goals refine awpOps_cons (op_as rfl (Conv.of rfl) rfl) ?_
    all_goals refine awpOps_nil ?_
    refine awp_ret ?_
    repeat first | refine rt_seq ?_ | refine rt_block ?_
    refine finP (.v rfl (Conv.of rfl)) rfl ?_
    have : ¬ a.length ≤ b.length := by simp at h; omega
    simp [FV.av, inS, this]
  · have hlen : a.length ≤ b.length := by simp at h; omega
    refine awp_skip ?_
    all_goals refine awp_seq (awp_seq (awp_region (id := 3) ?_))
    all_goals refine awpOps_cons (op_as rfl (Conv.of rfl) rfl) ?_
    all_goals refine awpOps_nil ?_
    refine awp_block ?_
    refine awp_loop' (fun n s => ∃ (k : Nat), ∃ (hn : n + k = a.length), ∃ (hall : decide (a.take k = b.take k) = true), s = mkSt 26 [(0, .v a), (1, .v b), (5, .v (k : Int))] []) (a.length) ⟨0, by omega, rfl, rfl⟩ (Le.mk rfl (tle rfl (rfl) rfl (tle rfl (rfl) rfl (tle rfl (rfl) rfl tln))) oln noS) ?_
    rintro n s ⟨k, hn, hall, rfl⟩
    all_goals refine awp_seq (awp_seq (awp_region (id := 4) ?_))
    all_goals refine awpOps_cons (op_mv rfl (Conv.of rfl) rfl) ?_
    all_goals refine awpOps_cons (op_mv rfl (Conv.of rfl) rfl) ?_
    all_goals refine awpOps_cons (op_len sl26 rfl rfl) ?_
    all_goals refine awpOps_cons (op_lss rfl rfl rfl) ?_
    all_goals refine awpOps_nil ?_
    refine awp_cond rfl (fun h => ?_) (fun h => ?_)
    · have hlt : k < a.length := by simpa using h
      have hx : a[k]? = some a[k] := List.getElem?_eq_getElem hlt
      have hy : b[k]? = some (b[k]'(by omega)) := List.getElem?_eq_getElem (by omega)
      have hs := take_eq_at hx hy
      refine awp_skip ?_
      refine awp_seq (awp_block ?_)
      all_goals refine awp_seq (dr_start (id := 6) ?_)
      all_goals refine dr_cons (op_mv rfl (Conv.of rfl) rfl) ?_
      all_goals refine dr_cons (op_mv rfl (Conv.of rfl) rfl) ?_
      all_goals refine dr_cons (op_ix sl26 rfl rfl rfl (by omega) hx) ?_
      all_goals refine dr_cons (op_ldr ty38 rfl rfl) ?_
      all_goals refine dr_cons (op_mv rfl (Conv.of rfl) rfl) ?_
      all_goals refine dr_cons (op_mv rfl (Conv.of rfl) rfl) ?_
      all_goals refine dr_cons (op_ix sl26 rfl rfl rfl (by omega) hy) ?_
      all_goals refine dr_cons (op_ldr ty38 rfl rfl) ?_
      all_goals refine dr_cons (op_nea weq38 rfl rfl rfl) ?_
      all_goals refine dr_nil mixed rfl ?_
      refine awp_cond rfl (fun h => ?_) (fun h => ?_)
      · all_goals refine awp_seq (awp_region (id := 7) ?_)
        all_goals refine awpOps_cons (op_as rfl (Conv.of rfl) rfl) ?_
        all_goals refine awpOps_nil ?_
        refine awp_ret ?_
        repeat first | refine rt_seq ?_ | refine rt_block ?_
        refine finP (.v rfl (Conv.of rfl)) rfl ?_
        have h' : ¬ a[k] = b[k] := by simpa using h
        have : ¬ a = b.take a.length := by
          intro e
          have e2 : a[k]? = (b.take a.length)[k]? := congrArg (fun l : List Itm => l[k]?) e
          rw [List.getElem?_take, if_pos hlt, hy, hx] at e2
          exact h' (Option.some.inj e2)
        simp [FV.av, inS, this]
      · refine awp_skip ?_
        have h' : decide (a[k] = b[k]) = true := by simpa using h
        all_goals refine awp_region (id := 5) ?_
        all_goals refine awpOps_cons (op_mv rfl (Conv.of rfl) rfl) ?_
        all_goals refine awpOps_cons (op_add rfl rfl rfl (by omega)) ?_
        all_goals refine awpOps_cons (op_as rfl (Conv.of rfl) rfl) ?_
        all_goals refine awpOps_nil ?_
        repeat first | refine nx_seq ?_ | refine nx_block ?_
        exact ⟨n - 1, _, by omega, ⟨k + 1, by omega, by rw [hs, hall, h']; rfl, rfl⟩, Le.mk rfl (tle rfl (rfl) rfl (tle rfl (rfl) rfl (tle rfl (rfl) rfl tln))) oln noS⟩
    · refine awp_exit ?_
      repeat refine ex_seq ?_
      refine ex_block ?_
      have hk : k = a.length := by simp at h; omega
      subst hk
      all_goals refine awp_seq (awp_region (id := 8) ?_)
      all_goals refine awpOps_cons (op_as rfl (Conv.of rfl) rfl) ?_
      all_goals refine awpOps_nil ?_
      refine awp_ret ?_
      repeat first | refine rt_seq ?_ | refine rt_block ?_
      refine finP (.v rfl (Conv.of rfl)) rfl ?_
      rw [List.take_length] at hall
      have : a = b.take a.length := by simpa using hall
      simp [FV.av, inS, hlen, ← this]
theorem inS_same {a b : List Itm} (h : a.length = b.length) : inS a b = decide (a = b) := by
  unfold inS
  rw [show b.take a.length = b by rw [h, List.take_length]]
  simp [h]
theorem l3Same_ct (a b : List Itm) : CtP Try.prog 97 [.v a, .v b] (.v (decide (a = b))) := by
  refine Ct.intro Try.func97 rfl rfl ?_
  all_goals refine awp_seq (awp_region (id := 0) ?_)
  all_goals refine awpOps_cons (op_as rfl (Conv.of rfl) rfl) ?_
  all_goals refine awpOps_nil ?_
  all_goals refine awp_seq (awp_region (id := 1) ?_)
  all_goals refine awpOps_cons (op_mv rfl (Conv.of rfl) rfl) ?_
  all_goals refine awpOps_cons (op_len sl26 rfl rfl) ?_
  all_goals refine awpOps_cons (op_mv rfl (Conv.of rfl) rfl) ?_
  all_goals refine awpOps_cons (op_len sl26 rfl rfl) ?_
  all_goals refine awpOps_cons (op_eql rfl rfl rfl) ?_
  all_goals refine awpOps_cons (op_mv rfl (Conv.of rfl) rfl) ?_
  all_goals refine g_split (t := 10) rfl (fun h => ?_) (fun h => ?_)
  all_goals first | refine awpOps_cons (g_off rfl rfl rfl rfl rfl) ?_ | refine awpOps_cons (g_on rfl rfl rfl (op_mv rfl (Conv.of rfl) rfl)) ?_
  all_goals first | refine awpOps_cons (g_off rfl rfl rfl rfl rfl) ?_ | refine awpOps_cons (g_on rfl rfl rfl (op_mv rfl (Conv.of rfl) rfl)) ?_
  all_goals first | refine awpOps_cons (g_off rfl rfl rfl rfl rfl) ?_ | refine awpOps_cons (g_on rfl rfl rfl (op_call fb121 (.cons rfl (Conv.of rfl) (.cons rfl (Conv.of rfl) (.nil _))) (l1In_ct _ _) (argOk rfl rfl (argOk rfl rfl argOk0)) rfl rfl)) ?_
  all_goals refine awpOps_cons (op_pick rfl rfl rfl rfl) ?_
  all_goals refine awpOps_cons (op_as rfl (Conv.of rfl) rfl) ?_
  all_goals refine awpOps_nil ?_
  all_goals refine awp_ret ?_
  all_goals refine finP (.v rfl (Conv.of rfl)) rfl ?_
  · have hl : a.length = b.length := by simp at h; omega
    simp only [FV.av]; congr 1
    exact inS_same hl
  · have hl : ¬ a.length = b.length := by simp at h; omega
    have : ¬ a = b := fun e => hl (by rw [e])
    simp [FV.av, this]
theorem l1Copy_ct (c : List Itm) (hc : c.length ≤ 1000000) : CtP Try.prog 36 [.v c] (.v (OList.mk c true)) := by
  refine Ct.intro Try.func36 rfl rfl ?_
  all_goals refine awp_seq (awp_region (id := 0) ?_)
  all_goals refine awpOps_cons (op_as rfl (Conv.of rfl) rfl) ?_
  all_goals refine awpOps_nil ?_
  all_goals refine awp_seq (awp_region (id := 1) ?_)
  all_goals refine awpOps_cons (op_bsl sl26 z38 (.nil _) rfl (by decide) rfl) ?_
  all_goals refine awpOps_cons (op_mv rfl (Conv.of rfl) rfl) ?_
  all_goals refine awpOps_cons (op_app sl26 z38 ul26 rfl rfl rfl (by (simp; omega)) (by (simp; omega)) rfl rfl) ?_
  all_goals refine awpOps_cons (op_asl rfl rfl rfl rfl) ?_
  all_goals refine awpOps_nil ?_
  refine awp_ret ?_
  repeat first | refine rt_seq ?_ | refine rt_block ?_
  exact finM rfl rfl (by simp)
theorem l3VoteCopy_ct (v : Vote) (hv : v.chain.length ≤ 1000000) : CtP Try.prog 39 [.v v] (.v v) := by
  refine Ct.intro Try.func39 rfl rfl ?_
  all_goals refine awp_seq (awp_region (id := 0) ?_)
  all_goals refine awpOps_cons (op_box (o := 0) ty28 rfl (Conv.of rfl) rfl rfl) ?_
  all_goals refine awpOps_cons (op_alloc (o := 1) z28 rfl rfl) ?_
  all_goals refine awpOps_nil ?_
  all_goals refine awp_seq (awp_region (id := 1) ?_)
  all_goals refine awpOps_cons (op_fab f28_1 rfl rfl) ?_
  all_goals refine awpOps_cons (op_ld ty26 rfl rfl rfl) ?_
  all_goals refine awpOps_cons (op_call fb36 (.cons rfl (Conv.of rfl) (.nil _)) (l1Copy_ct _ hv) (argOk rfl rfl argOk0) rfl rfl) ?_
  all_goals refine awpOps_cons (op_fab f28_1 rfl rfl) ?_
  all_goals refine awpOps_cons (op_st ty26 rfl rfl (Conv.ol) rfl) ?_
  all_goals refine awpOps_nil ?_
  all_goals refine awp_seq (awp_region (id := 2) ?_)
  all_goals refine awpOps_cons (op_ld ty28 rfl rfl rfl) ?_
  all_goals refine awpOps_cons (op_st ty28 rfl rfl (Conv.of rfl) rfl) ?_
  all_goals refine awpOps_nil ?_
  refine awp_ret ?_
  repeat first | refine rt_seq ?_ | refine rt_block ?_
  exact finP (.rc ty28 rfl rfl) rfl rfl
theorem l3Vote_ct (v : Vote) : CtP Try.prog 66 [.v v] (.v (voteOk v)) := by
  refine Ct.intro Try.func66 rfl rfl ?_
  all_goals refine awp_seq (awp_region (id := 0) ?_)
  all_goals refine awpOps_cons (op_box (o := 0) ty28 rfl (Conv.of rfl) rfl rfl) ?_
  all_goals refine awpOps_cons (op_as rfl (Conv.of rfl) rfl) ?_
  all_goals refine awpOps_nil ?_
  all_goals refine awp_seq (awp_region (id := 1) ?_)
  all_goals refine awpOps_cons (op_fab f28_0 rfl rfl) ?_
  all_goals refine awpOps_cons (op_ld ty3 rfl rfl rfl) ?_
  all_goals refine awpOps_cons (op_call fb51 (.cons rfl (Conv.of rfl) (.cons rfl (Conv.of rfl) (.cons rfl (Conv.of rfl) (.nil _)))) (l6In_ct _ _ _) (argOk rfl rfl (argOk rfl rfl (argOk rfl rfl argOk0))) rfl rfl) ?_
  all_goals refine awpOps_cons (op_mv rfl (Conv.of rfl) rfl) ?_
  all_goals refine g_split (t := 6) rfl (fun h => ?_) (fun h => ?_)
  all_goals first | refine awpOps_cons (g_off rfl rfl rfl rfl rfl) ?_ | refine awpOps_cons (g_on rfl rfl rfl (op_fab f28_1 rfl rfl)) ?_
  all_goals first | refine awpOps_cons (g_off rfl rfl rfl rfl rfl) ?_ | refine awpOps_cons (g_on rfl rfl rfl (op_ld ty26 rfl rfl rfl)) ?_
  all_goals first | refine awpOps_cons (g_off rfl rfl rfl rfl rfl) ?_ | refine awpOps_cons (g_on rfl rfl rfl (op_call fb86 (.cons rfl (Conv.of rfl) (.nil _)) (sChainOk_ct _) (argOk rfl rfl argOk0) rfl rfl)) ?_
  all_goals refine awpOps_cons (op_pick rfl rfl rfl rfl) ?_
  all_goals refine awpOps_cons (op_mv rfl (Conv.of rfl) rfl) ?_
  all_goals first | refine g_lit (t := 11) (b := false) rfl ?_ | refine g_split (t := 11) rfl (fun h => ?_) (fun h => ?_)
  all_goals first | refine awpOps_cons (g_off rfl rfl rfl rfl rfl) ?_ | refine awpOps_cons (g_on rfl rfl rfl (op_fab f28_1 rfl rfl)) ?_
  all_goals first | refine awpOps_cons (g_off rfl rfl rfl rfl rfl) ?_ | refine awpOps_cons (g_on rfl rfl rfl (op_ld ty26 rfl rfl rfl)) ?_
  all_goals first | refine awpOps_cons (g_off rfl rfl rfl rfl rfl) ?_ | refine awpOps_cons (g_on rfl rfl rfl (op_len sl26 rfl rfl)) ?_
  all_goals first | refine awpOps_cons (g_off rfl rfl rfl rfl rfl) ?_ | refine awpOps_cons (g_on rfl rfl rfl (op_gtr rfl rfl rfl)) ?_
  all_goals refine awpOps_cons (op_pick rfl rfl rfl rfl) ?_
  all_goals refine awpOps_cons (op_as rfl (Conv.of rfl) rfl) ?_
  all_goals refine awpOps_nil ?_
  all_goals refine awp_ret ?_
  all_goals refine finP (.v rfl (Conv.of rfl)) rfl ?_
  all_goals (simp_all [FV.av, voteOk])
theorem l3Has_ct (l : List Vote) (v : Vote) : CtP Try.prog 82 [.v l, .v v] (.v (decide (v ∈ l))) := by
  refine Ct.intro Try.func82 rfl rfl ?_
  refine awp_bigL 0 rfl (fun hB => ?_)
  all_goals refine awp_seq (awp_region (id := 0) ?_)
  all_goals refine awpOps_cons (op_box (o := 0) ty28 rfl (Conv.of rfl) rfl rfl) ?_
  all_goals refine awpOps_cons (op_as rfl (Conv.of rfl) rfl) ?_
  all_goals refine awpOps_nil ?_
  all_goals refine awp_seq (awp_seq (awp_region (id := 1) ?_))
  all_goals refine awpOps_cons (op_as rfl (Conv.of rfl) rfl) ?_
  all_goals refine awpOps_nil ?_
  refine awp_block ?_
  refine awp_loop' (fun n s => ∃ (k : Nat), ∃ (hn : n + k = l.length), ∃ (hall : decide (v ∈ l) = decide (v ∈ l.drop k)), s = mkSt 30 [(0, .v l), (3, .box 0 (IsLens.whole Vote)), (5, .v (k : Int))] [(0, .cell v)]) (l.length) ⟨0, by omega, rfl, rfl⟩ (Le.mk rfl (tle rfl (rfl) rfl (tlb rfl rfl rfl (tle rfl (rfl) rfl tln))) (olk rfl (by exact obOk_cell) oln) noS) ?_
  rintro n s ⟨k, hn, hall, rfl⟩
  all_goals refine awp_seq (awp_seq (awp_region (id := 2) ?_))
  all_goals refine awpOps_cons (op_mv rfl (Conv.of rfl) rfl) ?_
  all_goals refine awpOps_cons (op_mv rfl (Conv.of rfl) rfl) ?_
  all_goals refine awpOps_cons (op_len sl23 rfl rfl) ?_
  all_goals refine awpOps_cons (op_lss rfl rfl rfl) ?_
  all_goals refine awpOps_nil ?_
  refine awp_cond rfl (fun h => ?_) (fun h => ?_)
  · have hlt : k < l.length := by simpa using h
    have hx : l[k]? = some l[k] := List.getElem?_eq_getElem hlt
    have hs := mem_take_at (v := v) hx
    refine awp_skip ?_
    refine awp_seq (awp_block ?_)
    refine awp_seq_to (s' := mkSt 30 [(0, .v l), (3, .box 0 (IsLens.whole Vote)), (5, .v (k : Int)), (29, .v (decide (l[k] = v)))] [(0, .cell v)]) ?_ ?_
    · all_goals refine dr_start (id := 4) ?_
      all_goals refine dr_cons (op_mv rfl (Conv.of rfl) rfl) ?_
      all_goals refine dr_cons (op_mv rfl (Conv.of rfl) rfl) ?_
      all_goals refine dr_cons (op_ix sl23 rfl rfl rfl (by omega) hx) ?_
      all_goals refine dr_cons (op_far f28_0 rfl rfl) ?_
      all_goals refine dr_cons (op_ldr ty3 rfl rfl) ?_
      all_goals refine dr_cons (op_fab f28_0 rfl rfl) ?_
      all_goals refine dr_cons (op_ld ty3 rfl rfl rfl) ?_
      all_goals refine dr_cons (op_eql rfl rfl rfl) ?_
      all_goals refine dr_cons (op_mv rfl (Conv.of rfl) rfl) ?_
      all_goals refine dr_split (t := 20) rfl (fun h => ?_) (fun h => ?_)
      all_goals first | refine dr_cons (g_off rfl rfl rfl rfl rfl) ?_ | refine dr_cons (g_on rfl rfl rfl (op_mv rfl (Conv.of rfl) rfl)) ?_
      all_goals first | refine dr_cons (g_off rfl rfl rfl rfl rfl) ?_ | refine dr_cons (g_on rfl rfl rfl (op_mv rfl (Conv.of rfl) rfl)) ?_
      all_goals first | refine dr_cons (g_off rfl rfl rfl rfl rfl) ?_ | refine dr_cons (g_on rfl rfl rfl (op_ix sl23 rfl rfl rfl (by omega) hx)) ?_
      all_goals first | refine dr_cons (g_off rfl rfl rfl rfl rfl) ?_ | refine dr_cons (g_on rfl rfl rfl (op_far f28_1 rfl rfl)) ?_
      all_goals first | refine dr_cons (g_off rfl rfl rfl rfl rfl) ?_ | refine dr_cons (g_on rfl rfl rfl (op_ldr ty26 rfl rfl)) ?_
      all_goals first | refine dr_cons (g_off rfl rfl rfl rfl rfl) ?_ | refine dr_cons (g_on rfl rfl rfl (op_fab f28_1 rfl rfl)) ?_
      all_goals first | refine dr_cons (g_off rfl rfl rfl rfl rfl) ?_ | refine dr_cons (g_on rfl rfl rfl (op_ld ty26 rfl rfl rfl)) ?_
      all_goals first | refine dr_cons (g_off rfl rfl rfl rfl rfl) ?_ | refine dr_cons (g_on rfl rfl rfl (op_call fb97 (.cons rfl (Conv.of rfl) (.cons rfl (Conv.of rfl) (.nil _))) (l3Same_ct _ _) (argOk rfl rfl (argOk rfl rfl argOk0)) rfl rfl)) ?_
      all_goals refine dr_cons (op_pick rfl rfl rfl rfl) ?_
      all_goals refine dr_nil mixed rfl ?_
      all_goals exact Le.mk rfl (tle rfl (rfl) rfl (tlb rfl rfl rfl (tle rfl (rfl) rfl (tle rfl (by (show AV.v _ = AV.v _; congr 1; clear hall hs; generalize l[k] = u at *; obtain ⟨u1, u2⟩ := u; obtain ⟨v1, v2⟩ := v; simp_all)) rfl tln)))) (olk rfl (by exact obOk_cell) oln) noS
    refine awp_cond rfl (fun h => ?_) (fun h => ?_)
    · all_goals refine awp_seq (awp_region (id := 5) ?_)
      all_goals refine awpOps_cons (op_as rfl (Conv.of rfl) rfl) ?_
      all_goals refine awpOps_nil ?_
      refine awp_ret ?_
      repeat first | refine rt_seq ?_ | refine rt_block ?_
      refine finP (.v rfl (Conv.of rfl)) rfl ?_
      show AV.v true = _
      rw [hall, hs, h, Bool.true_or]
    · refine awp_skip ?_
      all_goals refine awp_region (id := 3) ?_
      all_goals refine awpOps_cons (op_mv rfl (Conv.of rfl) rfl) ?_
      all_goals refine awpOps_cons (op_add rfl rfl rfl (by omega)) ?_
      all_goals refine awpOps_cons (op_as rfl (Conv.of rfl) rfl) ?_
      all_goals refine awpOps_nil ?_
      repeat first | refine nx_seq ?_ | refine nx_block ?_
      exact ⟨n - 1, _, by omega, ⟨k + 1, by omega, by rw [hall, hs, h, Bool.false_or], rfl⟩, Le.mk rfl (tle rfl (rfl) rfl (tlb rfl rfl rfl (tle rfl (rfl) rfl tln))) (olk rfl (by exact obOk_cell) oln) noS⟩
  · refine awp_exit ?_
    repeat refine ex_seq ?_
    refine ex_block ?_
    have hk : l.length ≤ k := by simpa using h
    all_goals refine awp_seq (awp_region (id := 6) ?_)
    all_goals refine awpOps_cons (op_as rfl (Conv.of rfl) rfl) ?_
    all_goals refine awpOps_nil ?_
    refine awp_ret ?_
    repeat first | refine rt_seq ?_ | refine rt_block ?_
    refine finP (.v rfl (Conv.of rfl)) rfl ?_
    show AV.v false = _
    rw [hall, drop_end hk]; simp
theorem l3Many_ct (l : List Vote) (c : List Itm) : CtP Try.prog 122 [.v l, .v c] (.v (many l c)) := by
  refine Ct.intro Try.func122 rfl rfl ?_
  refine awp_bigL 0 rfl (fun hB => ?_)
  all_goals refine awp_seq (awp_region (id := 0) ?_)
  all_goals refine awpOps_cons (op_as rfl (Conv.of rfl) rfl) ?_
  all_goals refine awpOps_nil ?_
  all_goals refine awp_seq (awp_region (id := 1) ?_)
  all_goals refine awpOps_cons (op_as rfl (Conv.of rfl) rfl) ?_
  all_goals refine awpOps_nil ?_
  all_goals refine awp_seq (awp_seq (awp_region (id := 2) ?_))
  all_goals refine awpOps_cons (op_as rfl (Conv.of rfl) rfl) ?_
  all_goals refine awpOps_nil ?_
  refine awp_block ?_
  refine awp_loop' (fun n s => ∃ (k : Nat), ∃ (m : Int), ∃ (hn : n + k = l.length), ∃ (hm : 0 ≤ m ∧ m ≤ k), ∃ (hall : many l c = manyFrom c (l.drop k) m), s = mkSt 23 [(0, .v l), (1, .v c), (5, .v m), (6, .v (k : Int))] []) (l.length) ⟨0, (0 : Int), by omega, by omega, rfl, rfl⟩ (Le.mk rfl (tle rfl (rfl) rfl (tle rfl (rfl) rfl (tle rfl (rfl) rfl (tle rfl (rfl) rfl tln)))) oln noS) ?_
  rintro n s ⟨k, m, hn, hm, hall, rfl⟩
  all_goals refine awp_seq (awp_seq (awp_region (id := 3) ?_))
  all_goals refine awpOps_cons (op_mv rfl (Conv.of rfl) rfl) ?_
  all_goals refine awpOps_cons (op_mv rfl (Conv.of rfl) rfl) ?_
  all_goals refine awpOps_cons (op_len sl23 rfl rfl) ?_
  all_goals refine awpOps_cons (op_lss rfl rfl rfl) ?_
  all_goals refine awpOps_nil ?_
  refine awp_cond rfl (fun h => ?_) (fun h => ?_)
  · have hlt : k < l.length := by simpa using h
    have hx : l[k]? = some l[k] := List.getElem?_eq_getElem hlt
    have hs := many_drop (c := c) hx m
    refine awp_skip ?_
    refine awp_seq (awp_block ?_)
    all_goals refine awp_seq (awp_region (id := 5) ?_)
    all_goals refine awpOps_cons (op_mv rfl (Conv.of rfl) rfl) ?_
    all_goals refine awpOps_cons (op_mv rfl (Conv.of rfl) rfl) ?_
    all_goals refine awpOps_cons (op_ix sl23 rfl rfl rfl (by omega) hx) ?_
    all_goals refine awpOps_cons (op_far f28_1 rfl rfl) ?_
    all_goals refine awpOps_cons (op_ldr ty26 rfl rfl) ?_
    all_goals refine awpOps_cons (op_mv rfl (Conv.of rfl) rfl) ?_
    all_goals refine awpOps_cons (op_call fb97 (.cons rfl (Conv.of rfl) (.cons rfl (Conv.of rfl) (.nil _))) (l3Same_ct _ _) (argOk rfl rfl (argOk rfl rfl argOk0)) rfl rfl) ?_
    all_goals refine awpOps_nil ?_
    refine awp_cond rfl (fun h => ?_) (fun h => ?_)
    · all_goals refine awp_region (id := 6) ?_
      all_goals refine awpOps_cons (op_mv rfl (Conv.of rfl) rfl) ?_
      all_goals refine awpOps_cons (op_add rfl rfl rfl (by omega)) ?_
      all_goals refine awpOps_cons (op_as rfl (Conv.of rfl) rfl) ?_
      all_goals refine awpOps_nil ?_
      all_goals refine awp_region (id := 4) ?_
      all_goals refine awpOps_cons (op_mv rfl (Conv.of rfl) rfl) ?_
      all_goals refine awpOps_cons (op_add rfl rfl rfl (by omega)) ?_
      all_goals refine awpOps_cons (op_as rfl (Conv.of rfl) rfl) ?_
      all_goals refine awpOps_nil ?_
      repeat first | refine nx_seq ?_ | refine nx_block ?_
      exact ⟨n - 1, _, by omega, ⟨k + 1, m + 1, by omega, by omega, by rw [hall, hs, h]; rfl, rfl⟩, Le.mk rfl (tle rfl (rfl) rfl (tle rfl (rfl) rfl (tle rfl (rfl) rfl (tle rfl (rfl) rfl tln)))) oln noS⟩
    · refine awp_skip ?_
      all_goals refine awp_region (id := 4) ?_
      all_goals refine awpOps_cons (op_mv rfl (Conv.of rfl) rfl) ?_
      all_goals refine awpOps_cons (op_add rfl rfl rfl (by omega)) ?_
      all_goals refine awpOps_cons (op_as rfl (Conv.of rfl) rfl) ?_
      all_goals refine awpOps_nil ?_
      repeat first | refine nx_seq ?_ | refine nx_block ?_
      exact ⟨n - 1, _, by omega, ⟨k + 1, m, by omega, by omega, by rw [hall, hs, h]; rfl, rfl⟩, Le.mk rfl (tle rfl (rfl) rfl (tle rfl (rfl) rfl (tle rfl (rfl) rfl (tle rfl (rfl) rfl tln)))) oln noS⟩
  · refine awp_exit ?_
    repeat refine ex_seq ?_
    refine ex_block ?_
    have hk : l.length ≤ k := by simpa using h
    all_goals refine awp_seq (awp_region (id := 7) ?_)
    all_goals refine awpOps_cons (op_mv rfl (Conv.of rfl) rfl) ?_
    all_goals refine awpOps_cons (op_as rfl (Conv.of rfl) rfl) ?_
    all_goals refine awpOps_nil ?_
    refine awp_ret ?_
    repeat first | refine rt_seq ?_ | refine rt_block ?_
    refine finP (.v rfl (Conv.of rfl)) rfl ?_
    show AV.v _ = _
    rw [hall, drop_end hk]; rfl
theorem l11Sure_ct (l : List Vote) (c : List Itm) : CtP Try.prog 98 [.v l, .v c] (.v (sureS l c)) := by
  refine Ct.intro Try.func98 rfl rfl ?_
  refine awp_bigL 1 rfl (fun hB => ?_)
  all_goals refine awp_seq (awp_region (id := 0) ?_)
  all_goals refine awpOps_cons (op_as rfl (Conv.of rfl) rfl) ?_
  all_goals refine awpOps_nil ?_
  all_goals refine awp_seq (awp_seq (awp_region (id := 1) ?_))
  all_goals refine awpOps_cons (op_as rfl (Conv.of rfl) rfl) ?_
  all_goals refine awpOps_nil ?_
  refine awp_block ?_
  refine awp_loop' (fun n s => ∃ (k : Nat), ∃ (hn : n + k = c.length), ∃ (hall : sureS l c = sureSFrom l c k n), s = mkSt 18 [(0, .v l), (1, .v c), (5, .v ((k : Int) + 1))] []) (c.length) ⟨0, by omega, rfl, rfl⟩ (Le.mk rfl (tle rfl (rfl) rfl (tle rfl (rfl) rfl (tle rfl (rfl) rfl tln))) oln noS) ?_
  rintro n s ⟨k, hn, hall, rfl⟩
  all_goals refine awp_seq (awp_seq (awp_region (id := 2) ?_))
  all_goals refine awpOps_cons (op_mv rfl (Conv.of rfl) rfl) ?_
  all_goals refine awpOps_cons (op_mv rfl (Conv.of rfl) rfl) ?_
  all_goals refine awpOps_cons (op_len sl26 rfl rfl) ?_
  all_goals refine awpOps_cons (op_leq rfl rfl rfl) ?_
  all_goals refine awpOps_nil ?_
  refine awp_cond rfl (fun h => ?_) (fun h => ?_)
  · have hlt : k < c.length := by simp at h; omega
    obtain ⟨n', rfl⟩ : ∃ n', n = n' + 1 := ⟨n - 1, by omega⟩
    refine awp_skip ?_
    refine awp_seq (awp_block ?_)
    all_goals refine awp_seq (awp_region (id := 4) ?_)
    all_goals refine awpOps_cons (op_mv rfl (Conv.of rfl) rfl) ?_
    all_goals refine awpOps_cons (op_mv rfl (Conv.of rfl) rfl) ?_
    all_goals refine awpOps_cons (op_mv rfl (Conv.of rfl) rfl) ?_
    all_goals refine awpOps_cons (op_slh sl26 rfl rfl rfl (by omega)) ?_
    all_goals refine awpOps_cons (op_call fb122 (.cons rfl (Conv.of rfl) (.cons rfl (Conv.of rfl) (.nil _))) (l3Many_ct _ _) (argOk rfl rfl (argOk rfl rfl argOk0)) rfl rfl) ?_
    all_goals refine awpOps_cons (op_lss rfl rfl rfl) ?_
    all_goals refine awpOps_nil ?_
    refine awp_cond rfl (fun hb => ?_) (fun hb => ?_)
    · all_goals refine awp_seq (awp_region (id := 5) ?_)
      all_goals refine awpOps_cons (op_as rfl (Conv.of rfl) rfl) ?_
      all_goals refine awpOps_nil ?_
      refine awp_ret ?_
      repeat first | refine rt_seq ?_ | refine rt_block ?_
      refine finP (.v rfl (Conv.of rfl)) rfl ?_
      show AV.v false = _
      have hb' : many l (c.take ((k : Int) + 1).toNat) < 3 := by simpa using hb
      rw [hall, sureS_step, decide_eq_false (by rw [show ((k : Int) + 1).toNat = k + 1 by omega] at hb'; omega), Bool.false_and]
    · refine awp_skip ?_
      all_goals refine awp_region (id := 3) ?_
      all_goals refine awpOps_cons (op_mv rfl (Conv.of rfl) rfl) ?_
      all_goals refine awpOps_cons (op_add rfl rfl rfl (by omega)) ?_
      all_goals refine awpOps_cons (op_as rfl (Conv.of rfl) rfl) ?_
      all_goals refine awpOps_nil ?_
      have hb' : 3 ≤ many l (c.take ((k : Int) + 1).toNat) := by simpa using hb
      repeat first | refine nx_seq ?_ | refine nx_block ?_
      exact ⟨n', _, by omega, ⟨k + 1, by omega, by rw [hall, sureS_step, decide_eq_true (by rw [show ((k : Int) + 1).toNat = k + 1 by omega] at hb'; omega), Bool.true_and], rfl⟩, Le.mk rfl (tle rfl (rfl) rfl (tle rfl (rfl) rfl (tle rfl (rfl) rfl tln))) oln noS⟩
  · refine awp_exit ?_
    repeat refine ex_seq ?_
    refine ex_block ?_
    have hk : n = 0 := by simp at h; omega
    subst hk
    all_goals refine awp_seq (awp_region (id := 6) ?_)
    all_goals refine awpOps_cons (op_as rfl (Conv.of rfl) rfl) ?_
    all_goals refine awpOps_nil ?_
    refine awp_ret ?_
    repeat first | refine rt_seq ?_ | refine rt_block ?_
    refine finP (.v rfl (Conv.of rfl)) rfl ?_
    show AV.v true = _
    rw [hall]; rfl
end Go.Proofs.Ytmabpmlcclgecaa

/- The reference: nodes. -/
set_option linter.unusedVariables false
set_option linter.unusedSimpArgs false
namespace Go.Proofs.Ytmabpmlcclgecaa
open Go Go.Wt
theorem l12Enter_ct (n : Nod) (e : Int) (hn : 0 ≤ n.epoch ∧ n.epoch ≤ 30) : CtP Try.prog 34 [.v (sN n), .v e] (.v (sN (enterF n e))) := by
  unfold sN
  refine Ct.intro Try.func34 rfl rfl ?_
  all_goals refine awp_seq (awp_region (id := 0) ?_)
  all_goals refine awpOps_cons (op_boxm (o := 0) ty25_NodS rfl rfl rfl rfl) ?_
  all_goals refine awpOps_cons (op_alloc (o := 1) z25_NodS rfl rfl) ?_
  all_goals refine awpOps_nil ?_
  all_goals refine awp_seq (awp_seq (awp_region (id := 1) ?_))
  all_goals refine awpOps_cons (op_mv rfl (Conv.of rfl) rfl) ?_
  all_goals refine awpOps_cons (op_fab f25_1_NodS rfl rfl) ?_
  all_goals refine awpOps_cons (op_ld ty3 rfl rfl rfl) ?_
  all_goals refine awpOps_cons (op_add rfl rfl rfl (by ((try simp only [sN]); omega))) ?_
  all_goals refine awpOps_cons (op_call fb51 (.cons rfl (Conv.of rfl) (.cons rfl (Conv.of rfl) (.cons rfl (Conv.of rfl) (.nil _)))) (l6In_ct _ _ _) (argOk rfl rfl (argOk rfl rfl (argOk rfl rfl argOk0))) rfl rfl) ?_
  all_goals refine awpOps_nil ?_
  refine awp_cond rfl (fun h => ?_) (fun h => ?_)
  · all_goals refine awp_region (id := 2) ?_
    all_goals refine awpOps_cons (op_mv rfl (Conv.of rfl) rfl) ?_
    all_goals refine awpOps_cons (op_fab f25_1_NodS rfl rfl) ?_
    all_goals refine awpOps_cons (op_st ty3 rfl rfl (Conv.of rfl) rfl) ?_
    all_goals refine awpOps_nil ?_
    all_goals refine awp_seq (awp_region (id := 3) ?_)
    all_goals refine awpOps_cons (op_ldm ty25_NodS rfl rfl rfl) ?_
    all_goals refine awpOps_cons (op_stm ty25_NodS rfl rfl rfl) ?_
    all_goals refine awpOps_nil ?_
    refine awp_ret ?_
    repeat first | refine rt_seq ?_ | refine rt_block ?_
    refine ⟨_, _, res1C (ol := []) ty25_NodS rfl rfl (fun o ho => absurd (show o ∈ ([] : List Nat) from ho) (by simp)) oln noS, ?_, rfl⟩
    have h' : within e (n.epoch + 1) 30 = true := h
    show AV.v _ = AV.v _
    simp [enterF, h']
  · refine awp_skip ?_
    all_goals refine awp_seq (awp_region (id := 3) ?_)
    all_goals refine awpOps_cons (op_ldm ty25_NodS rfl rfl rfl) ?_
    all_goals refine awpOps_cons (op_stm ty25_NodS rfl rfl rfl) ?_
    all_goals refine awpOps_nil ?_
    refine awp_ret ?_
    repeat first | refine rt_seq ?_ | refine rt_block ?_
    refine ⟨_, _, res1C (ol := []) ty25_NodS rfl rfl (fun o ho => absurd (show o ∈ ([] : List Nat) from ho) (by simp)) oln noS, ?_, rfl⟩
    have h' : within e (n.epoch + 1) 30 = false := h
    show AV.v _ = AV.v _
    simp [enterF, h']
theorem l3Add_ct (l : List Vote) (v : Vote) (hl : l.length ≤ 1000000) (hv : v.chain.length ≤ 1000000) : CtP Try.prog 67 [.v (OList.mk l true), .v v] (.tup [.v (OList.mk (if decide (v ∈ l) then l else l ++ [v]) true), .v (!decide (v ∈ l))]) := by
  refine Ct.intro Try.func67 rfl rfl ?_
  all_goals refine awp_seq (awp_region (id := 0) ?_)
  all_goals refine awpOps_cons (op_box (o := 0) ty28 rfl (Conv.of rfl) rfl rfl) ?_
  all_goals refine awpOps_cons (op_as rfl (Conv.of rfl) rfl) ?_
  all_goals refine awpOps_cons (op_as rfl (Conv.of rfl) rfl) ?_
  all_goals refine awpOps_nil ?_
  all_goals refine awp_seq (awp_seq (awp_region (id := 1) ?_))
  all_goals refine awpOps_cons (op_mv rfl Conv.ol rfl) ?_
  all_goals refine awpOps_cons (op_ld ty28 rfl rfl rfl) ?_
  all_goals refine awpOps_cons (op_call fb82 (.cons rfl (Conv.of rfl) (.cons rfl (Conv.of rfl) (.nil _))) (l3Has_ct _ _) (argOk rfl rfl (argOk rfl rfl argOk0)) rfl rfl) ?_
  all_goals refine awpOps_nil ?_
  refine awp_cond rfl (fun h => ?_) (fun h => ?_)
  · all_goals refine awp_seq (awp_region (id := 2) ?_)
    all_goals refine awpOps_cons (op_mvl rfl rfl rfl rfl) ?_
    all_goals refine awpOps_cons (op_asl rfl rfl rfl rfl) ?_
    all_goals refine awpOps_cons (op_as rfl (Conv.of rfl) rfl) ?_
    all_goals refine awpOps_nil ?_
    refine awp_ret ?_
    repeat first | refine rt_seq ?_ | refine rt_block ?_
    refine ⟨_, _, resNM (ol := []) (.tmp rfl (.keep (.v rfl (Conv.of rfl)) (.nil _))) rfl (fun o ho => absurd (show o ∈ ([] : List Nat) from ho) (by simp)) oln noS, ?_, rfl⟩
    simp only [h, if_true]
    try rfl
  · refine awp_skip ?_
    all_goals refine awp_seq (awp_region (id := 3) ?_)
    all_goals refine awpOps_cons (op_mvl rfl rfl rfl rfl) ?_
    all_goals refine awpOps_cons (op_ld ty28 rfl rfl rfl) ?_
    all_goals refine awpOps_cons (op_call fb39 (.cons rfl (Conv.of rfl) (.nil _)) (l3VoteCopy_ct _ hv) (argOk rfl rfl argOk0) rfl rfl) ?_
    all_goals refine awpOps_cons (op_bsl sl23 z28 (.cons rfl (Conv.of rfl) (.nil _)) rfl (by decide) rfl) ?_
    all_goals refine awpOps_cons (op_app sl23 z28 ul23 rfl rfl rfl (by (simp; omega)) (by (simp; omega)) rfl rfl) ?_
    all_goals refine awpOps_cons (op_asl rfl rfl rfl rfl) ?_
    all_goals refine awpOps_cons (op_as rfl (Conv.of rfl) rfl) ?_
    all_goals refine awpOps_nil ?_
    refine awp_ret ?_
    repeat first | refine rt_seq ?_ | refine rt_block ?_
    refine ⟨_, _, resNM (ol := []) (.tmp rfl (.keep (.v rfl (Conv.of rfl)) (.nil _))) rfl (fun o ho => absurd (show o ∈ ([] : List Nat) from ho) (by simp)) oln noS, ?_, rfl⟩
    simp only [h]
    try rfl
theorem l12Vote_ct (n : Nod) (c : List Itm) (hn : Gd n.seen) (hc : c.length ≤ 1000000) : CtP Try.prog 100 [.v (sN n), .v c] (.tup [.v (sN (voteF n c).1), .v (voteF n c).2.1, .v (voteF n c).2.2]) := by
  have hl := hn.len
  unfold sN
  refine Ct.intro Try.func100 rfl rfl ?_
  all_goals refine awp_seq (awp_region (id := 0) ?_)
  all_goals refine awpOps_cons (op_boxm (o := 0) ty25_NodS rfl rfl rfl rfl) ?_
  all_goals refine awpOps_cons (op_alloc (o := 1) z25_NodS rfl rfl) ?_
  all_goals refine awpOps_cons (op_alloc (o := 2) z28 rfl rfl) ?_
  all_goals refine awpOps_cons (op_as rfl (Conv.of rfl) rfl) ?_
  all_goals refine awpOps_nil ?_
  all_goals refine awp_seq (dr_start (id := 1) ?_)
  all_goals refine dr_cons (op_fab f25_0_NodS rfl rfl) ?_
  all_goals refine dr_cons (op_ld ty3 rfl rfl rfl) ?_
  all_goals refine dr_cons (op_mv rfl (Conv.of rfl) rfl) ?_
  all_goals refine dr_cons (op_call fb36 (.cons rfl (Conv.of rfl) (.nil _)) (l1Copy_ct _ hc) (argOk rfl rfl argOk0) rfl rfl) ?_
  all_goals refine dr_cons (op_build (.cons f28_0 rfl (Conv.of rfl) (.cons f28_1 rfl (Conv.ol) (.nil _))) z28 rfl pl28 rfl) ?_
  all_goals refine dr_cons (op_alloc (o := 3) z28 rfl rfl) ?_
  all_goals refine dr_cons (op_st ty28 rfl rfl (Conv.of rfl) rfl) ?_
  all_goals refine dr_nil mixed rfl ?_
  all_goals refine awp_seq (awp_seq (awp_region (id := 2) ?_))
  all_goals refine awpOps_cons (op_fab f25_3_NodS rfl rfl) ?_
  all_goals refine awpOps_cons (op_ldl ty23_OListVote rfl rfl rfl) ?_
  all_goals refine awpOps_cons (op_len sl23 rfl rfl) ?_
  all_goals refine awpOps_cons (op_geq rfl rfl rfl) ?_
  all_goals refine awpOps_nil ?_
  refine awp_cond rfl (fun h => ?_) (fun h => ?_)
  · have h' : decide (80 ≤ n.seen.length) = true := by simp at h ⊢; omega
    all_goals refine awp_seq (awp_region (id := 3) ?_)
    all_goals refine awpOps_cons (op_ldm ty25_NodS rfl rfl rfl) ?_
    all_goals refine awpOps_cons (op_build (.nil _) z28 rfl pl28 rfl) ?_
    all_goals refine awpOps_cons (op_stm ty25_NodS rfl rfl rfl) ?_
    all_goals refine awpOps_cons (op_st ty28 rfl rfl (Conv.of rfl) rfl) ?_
    all_goals refine awpOps_cons (op_as rfl (Conv.of rfl) rfl) ?_
    all_goals refine awpOps_nil ?_
    refine awp_ret ?_
    repeat first | refine rt_seq ?_ | refine rt_block ?_
    refine ⟨_, _, resNM (ol := []) (.cell ty25_NodS rfl rfl (.keep (.rc ty28 rfl rfl) (.keep (.v rfl (Conv.of rfl)) (.nil _)))) rfl (fun o ho => absurd (show o ∈ ([] : List Nat) from ho) (by simp)) oln noS, ?_, rfl⟩
    simp only [voteF, h', if_true]
    try rfl
  · have h' : decide (80 ≤ n.seen.length) = false := by simp at h ⊢; omega
    refine awp_skip ?_
    all_goals refine awp_seq (awp_region (id := 4) ?_)
    all_goals refine awpOps_cons (op_fab f25_1_NodS rfl rfl) ?_
    all_goals refine awpOps_cons (op_ld ty3 rfl rfl rfl) ?_
    all_goals refine awpOps_cons (op_fab f25_2_NodS rfl rfl) ?_
    all_goals refine awpOps_cons (op_st ty3 rfl rfl (Conv.of rfl) rfl) ?_
    all_goals refine awpOps_nil ?_
    all_goals refine awp_seq (dr_start (id := 5) ?_)
    all_goals refine dr_cons (op_fab f25_3_NodS rfl rfl) ?_
    all_goals refine dr_cons (op_ldm ty23_OListVote rfl rfl rfl) ?_
    all_goals refine dr_cons (op_ld ty28 rfl rfl rfl) ?_
    all_goals refine dr_cons (op_call fb39 (.cons rfl (Conv.of rfl) (.nil _)) (l3VoteCopy_ct ⟨n.id, c⟩ hc) (argOk rfl rfl argOk0) rfl rfl) ?_
    all_goals refine dr_cons (op_bsl sl23 z28 (.cons rfl (Conv.of rfl) (.nil _)) rfl (by decide) rfl) ?_
    all_goals refine dr_cons (op_app sl23 z28 ul23 rfl rfl rfl (by (simp; omega)) (by (simp; omega)) rfl rfl) ?_
    all_goals refine dr_cons (op_fab f25_3_NodS rfl rfl) ?_
    all_goals refine dr_cons (op_stm ty23_OListVote rfl rfl rfl) ?_
    all_goals refine dr_nil mixed rfl ?_
    all_goals refine awp_seq (dr_start (id := 6) ?_)
    all_goals refine dr_cons (op_ldm ty25_NodS rfl rfl rfl) ?_
    all_goals refine dr_cons (op_ld ty28 rfl rfl rfl) ?_
    all_goals refine dr_cons (op_stm ty25_NodS rfl rfl rfl) ?_
    all_goals refine dr_cons (op_st ty28 rfl rfl (Conv.of rfl) rfl) ?_
    all_goals refine dr_cons (op_as rfl (Conv.of rfl) rfl) ?_
    all_goals refine dr_nil mixed rfl ?_
    refine awp_ret ?_
    repeat first | refine rt_seq ?_ | refine rt_block ?_
    refine ⟨_, _, resNM (ol := []) (.cell ty25_NodS rfl rfl (.keep (.rc ty28 rfl rfl) (.keep (.v rfl (Conv.of rfl)) (.nil _)))) rfl (fun o ho => absurd (show o ∈ ([] : List Nat) from ho) (by simp)) oln noS, ?_, rfl⟩
    simp only [voteF, h']
    try rfl
theorem l12Fits_ct (n : Nod) (u : Vote) (long : Nat) (hu : 0 < u.chain.length) (hn : 0 ≤ n.epoch ∧ n.epoch ≤ 30) : CtP Try.prog 99 [.v (fN n), .v u, .v (long : Int)] (.v (fitsS n u long)) := by
  have hx : u.chain[u.chain.length - 1]? = some (u.chain[u.chain.length - 1]'(by omega)) := List.getElem?_eq_getElem (by omega)
  have hx' : u.chain[((u.chain.length : Int) - 1).toNat]? = some (u.chain[u.chain.length - 1]'(by omega)) := by
    rw [show ((u.chain.length : Int) - 1).toNat = u.chain.length - 1 by omega]; exact hx
  unfold fN
  refine Ct.intro Try.func99 rfl rfl ?_
  all_goals refine awp_seq (awp_region (id := 0) ?_)
  all_goals refine awpOps_cons (op_box (o := 0) ty25_NodS rfl (Conv.of rfl) rfl rfl) ?_
  all_goals refine awpOps_cons (op_box (o := 1) ty28 rfl (Conv.of rfl) rfl rfl) ?_
  all_goals refine awpOps_cons (op_as rfl (Conv.of rfl) rfl) ?_
  all_goals refine awpOps_nil ?_
  all_goals refine awp_seq (awp_region (id := 1) ?_)
  all_goals refine awpOps_cons (op_fab f28_1 rfl rfl) ?_
  all_goals refine awpOps_cons (op_ld ty26 rfl rfl rfl) ?_
  refine awpOps_bigL 9 rfl (fun hb => ?_)
  all_goals refine awpOps_cons (op_len sl26 rfl rfl) ?_
  all_goals refine awpOps_cons (op_sub rfl rfl rfl (by omega)) ?_
  all_goals refine awpOps_cons (op_as rfl (Conv.of rfl) rfl) ?_
  all_goals refine awpOps_nil ?_
  all_goals refine awp_seq (dr_start (id := 2) ?_)
  all_goals refine dr_cons (op_fab f28_0 rfl rfl) ?_
  all_goals refine dr_cons (op_ld ty3 rfl rfl rfl) ?_
  all_goals refine dr_cons (op_fab f25_1_NodS rfl rfl) ?_
  all_goals refine dr_cons (op_ld ty3 rfl rfl rfl) ?_
  all_goals refine dr_cons (op_call fb35 (.cons rfl (Conv.of rfl) (.nil _)) (l3Leader_ct _ (by show -1000 ≤ n.epoch ∧ n.epoch ≤ 1000000; omega)) (argOk rfl rfl argOk0) rfl rfl) ?_
  all_goals refine dr_cons (op_eql rfl rfl rfl) ?_
  all_goals refine dr_cons (op_mv rfl (Conv.of rfl) rfl) ?_
  all_goals refine dr_split (t := 18) rfl (fun h => ?_) (fun h => ?_)
  all_goals first | refine dr_cons (g_off rfl rfl rfl rfl rfl) ?_ | refine dr_cons (g_on rfl rfl rfl (op_fab f28_1 rfl rfl)) ?_
  all_goals first | refine dr_cons (g_off rfl rfl rfl rfl rfl) ?_ | refine dr_cons (g_on rfl rfl rfl (op_ld ty26 rfl rfl rfl)) ?_
  all_goals first | refine dr_cons (g_off rfl rfl rfl rfl rfl) ?_ | refine dr_cons (g_on rfl rfl rfl (op_mv rfl (Conv.of rfl) rfl)) ?_
  all_goals first | refine dr_cons (g_off rfl rfl rfl rfl rfl) ?_ | refine dr_cons (g_on rfl rfl rfl (op_ix sl26 rfl rfl rfl (by omega) hx')) ?_
  all_goals first | refine dr_cons (g_off rfl rfl rfl rfl rfl) ?_ | refine dr_cons (g_on rfl rfl rfl (op_far f38_0 rfl rfl)) ?_
  all_goals first | refine dr_cons (g_off rfl rfl rfl rfl rfl) ?_ | refine dr_cons (g_on rfl rfl rfl (op_ldr ty3 rfl rfl)) ?_
  all_goals first | refine dr_cons (g_off rfl rfl rfl rfl rfl) ?_ | refine dr_cons (g_on rfl rfl rfl (op_fab f25_1_NodS rfl rfl)) ?_
  all_goals first | refine dr_cons (g_off rfl rfl rfl rfl rfl) ?_ | refine dr_cons (g_on rfl rfl rfl (op_ld ty3 rfl rfl rfl)) ?_
  all_goals first | refine dr_cons (g_off rfl rfl rfl rfl rfl) ?_ | refine dr_cons (g_on rfl rfl rfl (op_eql rfl rfl rfl)) ?_
  all_goals refine dr_cons (op_pick rfl rfl rfl rfl) ?_
  all_goals refine dr_cons (op_mv rfl (Conv.of rfl) rfl) ?_
  all_goals first | refine dr_lit (t := 29) (b := false) rfl ?_ | refine dr_split (t := 29) rfl (fun h => ?_) (fun h => ?_)
  all_goals first | refine dr_cons (g_off rfl rfl rfl rfl rfl) ?_ | refine dr_cons (g_on rfl rfl rfl (op_mv rfl (Conv.of rfl) rfl)) ?_
  all_goals first | refine dr_cons (g_off rfl rfl rfl rfl rfl) ?_ | refine dr_cons (g_on rfl rfl rfl (op_mv rfl (Conv.of rfl) rfl)) ?_
  all_goals first | refine dr_cons (g_off rfl rfl rfl rfl rfl) ?_ | refine dr_cons (g_on rfl rfl rfl (op_eql rfl rfl rfl)) ?_
  all_goals refine dr_cons (op_pick rfl rfl rfl rfl) ?_
  all_goals refine dr_cons (op_mv rfl (Conv.of rfl) rfl) ?_
  all_goals first | refine dr_lit (t := 34) (b := false) rfl ?_ | refine dr_split (t := 34) rfl (fun h => ?_) (fun h => ?_)
  all_goals first | refine dr_cons (g_off rfl rfl rfl rfl rfl) ?_ | refine dr_cons (g_on rfl rfl rfl (op_fab f25_3_NodS rfl rfl)) ?_
  all_goals first | refine dr_cons (g_off rfl rfl rfl rfl rfl) ?_ | refine dr_cons (g_on rfl rfl rfl (op_ldl ty23_OListVote rfl rfl rfl)) ?_
  all_goals first | refine dr_cons (g_off rfl rfl rfl rfl rfl) ?_ | refine dr_cons (g_on rfl rfl rfl (op_fab f28_1 rfl rfl)) ?_
  all_goals first | refine dr_cons (g_off rfl rfl rfl rfl rfl) ?_ | refine dr_cons (g_on rfl rfl rfl (op_ld ty26 rfl rfl rfl)) ?_
  all_goals first | refine dr_cons (g_off rfl rfl rfl rfl rfl) ?_ | refine dr_cons (g_on rfl rfl rfl (op_mv rfl (Conv.of rfl) rfl)) ?_
  all_goals first | refine dr_cons (g_off rfl rfl rfl rfl rfl) ?_ | refine dr_cons (g_on rfl rfl rfl (op_slh sl26 rfl rfl rfl ⟨by omega, by omega⟩)) ?_
  all_goals first | refine dr_cons (g_off rfl rfl rfl rfl rfl) ?_ | refine dr_cons (g_on rfl rfl rfl (op_call fb98 (.cons rfl (Conv.of rfl) (.cons rfl (Conv.of rfl) (.nil _))) (l11Sure_ct _ _) (argOk rfl rfl (argOk rfl rfl argOk0)) rfl rfl)) ?_
  all_goals refine dr_cons (op_pick rfl rfl rfl rfl) ?_
  all_goals refine dr_cons (op_as rfl (Conv.of rfl) rfl) ?_
  all_goals refine dr_nil mixed rfl ?_
  all_goals refine awp_ret ?_
  all_goals refine finP (.v rfl (Conv.of rfl)) rfl ?_
  all_goals (simp only [FV.av]; congr 1; rw [fitsS_alt hu, lastEp_get hx]; simp_all)
end Go.Proofs.Ytmabpmlcclgecaa

/- The reference: sure chains. -/
set_option linter.unusedVariables false
set_option linter.unusedSimpArgs false
namespace Go.Proofs.Ytmabpmlcclgecaa
open Go Go.Wt
set_option maxHeartbeats 1000000 in
theorem l11All_ct (l : List Vote) (hl : l.length ≤ 100000) (hv : ∀ v ∈ l, v.chain.length ≤ 1000000) : CtP Try.prog 65 [.v l] (.v (OList.mk (allOfS l) true)) := by
  refine Ct.intro Try.func65 rfl rfl ?_
  all_goals refine awp_seq (awp_region (id := 0) ?_)
  all_goals refine awpOps_cons (op_as rfl (Conv.of rfl) rfl) ?_
  all_goals refine awpOps_nil ?_
  all_goals refine awp_seq (awp_region (id := 1) ?_)
  all_goals refine awpOps_cons (op_bsl sl26 z38 (.nil _) rfl (by decide) rfl) ?_
  all_goals refine awpOps_cons (op_bsl sl89 z26 (.cons rfl (Conv.ol) (.nil _)) rfl (by decide) rfl) ?_
  all_goals refine awpOps_cons (op_asl rfl rfl rfl rfl) ?_
  all_goals refine awpOps_nil ?_
  all_goals refine awp_seq (awp_seq (awp_region (id := 2) ?_))
  all_goals refine awpOps_cons (op_as rfl (Conv.of rfl) rfl) ?_
  all_goals refine awpOps_nil ?_
  refine awp_block ?_
  refine awp_loop' (fun n s => ∃ (k : Nat), ∃ (hn : n + k = l.length), s = mkSt 55 [(0, .v l), (3, .v (OList.mk ((l.take k).foldl (allStepS l) [[]]) true)), (4, .v (k : Int))] []) (l.length) ⟨0, by omega, rfl⟩ (Le.mk rfl (tle rfl (rfl) rfl (tle rfl (by rfl) rfl (tle rfl (rfl) rfl tln))) oln noS) ?_
  rintro n s ⟨k, hn, rfl⟩
  generalize hO : (l.take k).foldl (allStepS l) [[]] = out
  have hout : out.length ≤ 100001 := by
    have := allStepS_len l (l.take k) [[]]
    rw [hO] at this
    simp at this; omega
  all_goals refine awp_seq (awp_seq (awp_region (id := 3) ?_))
  all_goals refine awpOps_cons (op_mv rfl (Conv.of rfl) rfl) ?_
  all_goals refine awpOps_cons (op_mv rfl (Conv.of rfl) rfl) ?_
  all_goals refine awpOps_cons (op_len sl23 rfl rfl) ?_
  all_goals refine awpOps_cons (op_lss rfl rfl rfl) ?_
  all_goals refine awpOps_nil ?_
  refine awp_cond rfl (fun h => ?_) (fun h => ?_)
  · have hlt : k < l.length := by simpa using h
    have hx : l[k]? = some l[k] := List.getElem?_eq_getElem hlt
    refine awp_skip ?_
    refine awp_seq (awp_block ?_)
    all_goals refine awp_seq (awp_region (id := 5) ?_)
    all_goals refine awpOps_cons (op_as rfl (Conv.of rfl) rfl) ?_
    all_goals refine awpOps_nil ?_
    all_goals refine awp_seq (awp_seq (awp_region (id := 6) ?_))
    all_goals refine awpOps_cons (op_as rfl (Conv.of rfl) rfl) ?_
    all_goals refine awpOps_nil ?_
    refine awp_to (s' := mkSt 55 [(0, .v l), (3, .v (OList.mk out true)), (4, .v (k : Int)), (5, .v (decide (l[k].chain ∈ out)))] []) ?_ ?_
    · refine awp_block ?_
      refine awp_loop' (fun n_ s => ∃ (m : Nat), ∃ (hn2 : n_ + m = out.length), s = mkSt 55 [(0, .v l), (3, .v (OList.mk out true)), (4, .v (k : Int)), (5, .v (decide (l[k].chain ∈ out.take m))), (6, .v (m : Int))] []) (out.length) ⟨0, by omega, rfl⟩ (Le.mk rfl (tle rfl (rfl) rfl (tle rfl (rfl) rfl (tle rfl (rfl) rfl (tle rfl (by rfl) rfl (tle rfl (rfl) rfl tln))))) oln noS) ?_
      rintro n_ s ⟨m, hn2, rfl⟩
      all_goals refine awp_seq (awp_seq (awp_region (id := 7) ?_))
      all_goals refine awpOps_cons (op_mv rfl (Conv.of rfl) rfl) ?_
      all_goals refine awpOps_cons (op_mv rfl Conv.ol rfl) ?_
      all_goals refine awpOps_cons (op_len sl89 rfl rfl) ?_
      all_goals refine awpOps_cons (op_lss rfl rfl rfl) ?_
      all_goals refine awpOps_nil ?_
      refine awp_cond rfl (fun h2 => ?_) (fun h2 => ?_)
      · have hlt2 : m < out.length := by simpa using h2
        have hy : out[m]? = some out[m] := List.getElem?_eq_getElem hlt2
        have hs2 := mem_take_c (v := l[k].chain) hy
        refine awp_skip ?_
        refine awp_seq (awp_block ?_)
        refine awp_toB (s' := mkSt 55 [(0, .v l), (3, .v (OList.mk out true)), (4, .v (k : Int)), (5, .v (decide (l[k].chain ∈ out.take (m + 1)))), (6, .v (m : Int))] []) ?_ ?_
        · all_goals refine dr_start (id := 9) ?_
          all_goals refine dr_cons (op_mv rfl (Conv.of rfl) rfl) ?_
          all_goals refine dr_cons (op_mv rfl (Conv.of rfl) rfl) ?_
          all_goals refine dr_split (t := 22) rfl (fun h => ?_) (fun h => ?_)
          all_goals first | refine dr_cons (g_off rfl rfl rfl rfl rfl) ?_ | refine dr_cons (g_on rfl rfl rfl (op_mv rfl Conv.ol rfl)) ?_
          all_goals first | refine dr_cons (g_off rfl rfl rfl rfl rfl) ?_ | refine dr_cons (g_on rfl rfl rfl (op_mv rfl (Conv.of rfl) rfl)) ?_
          all_goals first | refine dr_cons (g_off rfl rfl rfl rfl rfl) ?_ | refine dr_cons (g_on rfl rfl rfl (op_ix sl89 rfl rfl rfl (by omega) hy)) ?_
          all_goals first | refine dr_cons (g_off rfl rfl rfl rfl rfl) ?_ | refine dr_cons (g_on rfl rfl rfl (op_ldr ty26 rfl rfl)) ?_
          all_goals first | refine dr_cons (g_off rfl rfl rfl rfl rfl) ?_ | refine dr_cons (g_on rfl rfl rfl (op_mv rfl (Conv.of rfl) rfl)) ?_
          all_goals first | refine dr_cons (g_off rfl rfl rfl rfl rfl) ?_ | refine dr_cons (g_on rfl rfl rfl (op_mv rfl (Conv.of rfl) rfl)) ?_
          all_goals first | refine dr_cons (g_off rfl rfl rfl rfl rfl) ?_ | refine dr_cons (g_on rfl rfl rfl (op_ix sl23 rfl rfl rfl (by omega) hx)) ?_
          all_goals first | refine dr_cons (g_off rfl rfl rfl rfl rfl) ?_ | refine dr_cons (g_on rfl rfl rfl (op_far f28_1 rfl rfl)) ?_
          all_goals first | refine dr_cons (g_off rfl rfl rfl rfl rfl) ?_ | refine dr_cons (g_on rfl rfl rfl (op_ldr ty26 rfl rfl)) ?_
          all_goals first | refine dr_cons (g_off rfl rfl rfl rfl rfl) ?_ | refine dr_cons (g_on rfl rfl rfl (op_call fb97 (.cons rfl (Conv.of rfl) (.cons rfl (Conv.of rfl) (.nil _))) (l3Same_ct _ _) (argOk rfl rfl (argOk rfl rfl argOk0)) rfl rfl)) ?_
          all_goals refine dr_cons (op_pick rfl rfl rfl rfl) ?_
          all_goals refine dr_cons (op_as rfl (Conv.of rfl) rfl) ?_
          all_goals refine dr_nil mixed rfl ?_
          all_goals exact Le.mk rfl (tle rfl (rfl) rfl (tle rfl (rfl) rfl (tle rfl (rfl) rfl (tle rfl (by (rw [hs2]; clear hs2; simp_all)) rfl (tle rfl (rfl) rfl tln))))) oln noS
        all_goals refine awp_region (id := 8) ?_
        all_goals refine awpOps_cons (op_mv rfl (Conv.of rfl) rfl) ?_
        all_goals refine awpOps_cons (op_add rfl rfl rfl (by omega)) ?_
        all_goals refine awpOps_cons (op_as rfl (Conv.of rfl) rfl) ?_
        all_goals refine awpOps_nil ?_
        repeat first | refine nx_seq ?_ | refine nx_block ?_
        exact ⟨n_ - 1, _, by omega, ⟨m + 1, by omega, rfl⟩, Le.mk rfl (tle rfl (rfl) rfl (tle rfl (rfl) rfl (tle rfl (rfl) rfl (tle rfl (by rfl) rfl (tle rfl (rfl) rfl tln))))) oln noS⟩
      · refine awp_exit ?_
        repeat refine ex_seq ?_
        refine ex_block ?_
        have hm : out.length ≤ m := by simpa using h2
        all_goals exact Le.mk rfl (tle rfl (rfl) rfl (tle rfl (rfl) rfl (tle rfl (rfl) rfl (tle rfl (by (simp only [take_end hm])) rfl tln)))) oln noS
    · refine awp_seq_to (s' := mkSt 55 [(0, .v l), (3, .v (OList.mk out true)), (4, .v (k : Int)), (44, .v (!decide (l[k].chain ∈ out) && sureS l l[k].chain))] []) ?_ ?_
      · all_goals refine awp_region (id := 10) ?_
        all_goals refine awpOps_cons (op_mv rfl (Conv.of rfl) rfl) ?_
        all_goals refine awpOps_cons (op_not rfl rfl) ?_
        all_goals refine awpOps_cons (op_mv rfl (Conv.of rfl) rfl) ?_
        all_goals refine g_split (t := 36) rfl (fun h => ?_) (fun h => ?_)
        all_goals first | refine awpOps_cons (g_off rfl rfl rfl rfl rfl) ?_ | refine awpOps_cons (g_on rfl rfl rfl (op_mv rfl (Conv.of rfl) rfl)) ?_
        all_goals first | refine awpOps_cons (g_off rfl rfl rfl rfl rfl) ?_ | refine awpOps_cons (g_on rfl rfl rfl (op_mv rfl (Conv.of rfl) rfl)) ?_
        all_goals first | refine awpOps_cons (g_off rfl rfl rfl rfl rfl) ?_ | refine awpOps_cons (g_on rfl rfl rfl (op_mv rfl (Conv.of rfl) rfl)) ?_
        all_goals first | refine awpOps_cons (g_off rfl rfl rfl rfl rfl) ?_ | refine awpOps_cons (g_on rfl rfl rfl (op_ix sl23 rfl rfl rfl (by omega) hx)) ?_
        all_goals first | refine awpOps_cons (g_off rfl rfl rfl rfl rfl) ?_ | refine awpOps_cons (g_on rfl rfl rfl (op_far f28_1 rfl rfl)) ?_
        all_goals first | refine awpOps_cons (g_off rfl rfl rfl rfl rfl) ?_ | refine awpOps_cons (g_on rfl rfl rfl (op_ldr ty26 rfl rfl)) ?_
        all_goals first | refine awpOps_cons (g_off rfl rfl rfl rfl rfl) ?_ | refine awpOps_cons (g_on rfl rfl rfl (op_call fb98 (.cons rfl (Conv.of rfl) (.cons rfl (Conv.of rfl) (.nil _))) (l11Sure_ct _ _) (argOk rfl rfl (argOk rfl rfl argOk0)) rfl rfl)) ?_
        all_goals refine awpOps_cons (op_pick rfl rfl rfl rfl) ?_
        all_goals refine awpOps_nil ?_
        all_goals exact Le.mk rfl (tle rfl (rfl) rfl (tle rfl (rfl) rfl (tle rfl (rfl) rfl (tle rfl (by simp_all) rfl tln)))) oln noS
      refine awp_cond rfl (fun hb => ?_) (fun hb => ?_)
      · all_goals refine awp_region (id := 11) ?_
        all_goals refine awpOps_cons (op_mvl rfl rfl rfl rfl) ?_
        all_goals refine awpOps_cons (op_mv rfl (Conv.of rfl) rfl) ?_
        all_goals refine awpOps_cons (op_mv rfl (Conv.of rfl) rfl) ?_
        all_goals refine awpOps_cons (op_ix sl23 rfl rfl rfl (by omega) hx) ?_
        all_goals refine awpOps_cons (op_far f28_1 rfl rfl) ?_
        all_goals refine awpOps_cons (op_ldr ty26 rfl rfl) ?_
        all_goals refine awpOps_cons (op_call fb36 (.cons rfl (Conv.of rfl) (.nil _)) (l1Copy_ct _ (hv _ (List.getElem_mem hlt))) (argOk rfl rfl argOk0) rfl rfl) ?_
        all_goals refine awpOps_cons (op_bsl sl89 z26 (.cons rfl (Conv.ol) (.nil _)) rfl (by decide) rfl) ?_
        all_goals refine awpOps_cons (op_app sl89 z26 ul89 rfl rfl rfl (by (simp; omega)) (by (simp; omega)) rfl rfl) ?_
        all_goals refine awpOps_cons (op_asl rfl rfl rfl rfl) ?_
        all_goals refine awpOps_nil ?_
        all_goals refine awp_region (id := 4) ?_
        all_goals refine awpOps_cons (op_mv rfl (Conv.of rfl) rfl) ?_
        all_goals refine awpOps_cons (op_add rfl rfl rfl (by omega)) ?_
        all_goals refine awpOps_cons (op_as rfl (Conv.of rfl) rfl) ?_
        all_goals refine awpOps_nil ?_
        repeat first | refine nx_seq ?_ | refine nx_block ?_
        exact ⟨n - 1, _, by omega, ⟨k + 1, by omega, rfl⟩, Le.mk rfl (tle rfl (rfl) rfl (tle rfl (by (rw [foldl_at _ _ hx, hO]; simp only [allStepS, hb]; try rfl)) rfl (tle rfl (rfl) rfl tln))) oln noS⟩
      · refine awp_skip ?_
        all_goals refine awp_region (id := 4) ?_
        all_goals refine awpOps_cons (op_mv rfl (Conv.of rfl) rfl) ?_
        all_goals refine awpOps_cons (op_add rfl rfl rfl (by omega)) ?_
        all_goals refine awpOps_cons (op_as rfl (Conv.of rfl) rfl) ?_
        all_goals refine awpOps_nil ?_
        repeat first | refine nx_seq ?_ | refine nx_block ?_
        exact ⟨n - 1, _, by omega, ⟨k + 1, by omega, rfl⟩, Le.mk rfl (tle rfl (rfl) rfl (tle rfl (by (rw [foldl_at _ _ hx, hO]; simp only [allStepS, hb]; try rfl)) rfl (tle rfl (rfl) rfl tln))) oln noS⟩
  · refine awp_exit ?_
    repeat refine ex_seq ?_
    refine ex_block ?_
    have hk : l.length ≤ k := by simpa using h
    all_goals refine awp_seq (awp_region (id := 12) ?_)
    all_goals refine awpOps_cons (op_mvl rfl rfl rfl rfl) ?_
    all_goals refine awpOps_cons (op_asl rfl rfl rfl rfl) ?_
    all_goals refine awpOps_nil ?_
    refine awp_ret ?_
    repeat first | refine rt_seq ?_ | refine rt_block ?_
    exact finM rfl rfl (by rw [← hO, take_end hk]; rfl)
theorem l11Tip_ct (l : List Vote) (hl : l.length ≤ 100000) (hv : ∀ v ∈ l, v.chain.length ≤ 1000000) : CtP Try.prog 37 [.v l] (.v (tipOfS l)) := by
  have h0 := allOfS_0 l
  have hall : (allOfS l).length ≤ 100001 := by
    have := allStepS_len l l [[]]
    simp at this; unfold allOfS; omega
  have hpos : 0 < (allOfS l).length := (List.getElem?_eq_some_iff.1 h0).1
  refine Ct.intro Try.func37 rfl rfl ?_
  all_goals refine awp_seq (awp_region (id := 0) ?_)
  all_goals refine awpOps_cons (op_as rfl (Conv.of rfl) rfl) ?_
  all_goals refine awpOps_nil ?_
  all_goals refine awp_seq (awp_region (id := 1) ?_)
  all_goals refine awpOps_cons (op_mv rfl (Conv.of rfl) rfl) ?_
  all_goals refine awpOps_cons (op_call fb65 (.cons rfl (Conv.of rfl) (.nil _)) (l11All_ct l hl hv) (argOk rfl rfl argOk0) rfl rfl) ?_
  all_goals refine awpOps_cons (op_as rfl Conv.ol rfl) ?_
  all_goals refine awpOps_nil ?_
  all_goals refine awp_seq (awp_region (id := 2) ?_)
  all_goals refine awpOps_cons (op_mv rfl (Conv.of rfl) rfl) ?_
  all_goals refine awpOps_cons (op_ix sl89 rfl rfl rfl (by omega) h0) ?_
  all_goals refine awpOps_cons (op_ldr ty26 rfl rfl) ?_
  all_goals refine awpOps_cons (op_as rfl (Conv.of rfl) rfl) ?_
  all_goals refine awpOps_nil ?_
  all_goals refine awp_seq (awp_seq (awp_region (id := 3) ?_))
  all_goals refine awpOps_cons (op_as rfl (Conv.of rfl) rfl) ?_
  all_goals refine awpOps_nil ?_
  refine awp_block ?_
  refine awp_loop' (fun n s => ∃ (k : Nat), ∃ (hn : n + k = (allOfS l).length), ∃ (hk1 : 1 ≤ k), s = mkSt 30 [(3, .v (allOfS l)), (4, .v (((allOfS l).take k).foldl tipStep [])), (5, .v (k : Int))] []) ((allOfS l).length - 1) ⟨1, by omega, Nat.le_refl _, rfl⟩ (Le.mk rfl (tle rfl (rfl) rfl (tle rfl (by (first | (show AV.v _ = AV.v _; rw [show (allOfS l).take 1 = [[]] from by rw [take_at h0]; rfl]; rfl) | rw [foldl_at _ _ hx]; simp only [tipStep, hb'']; try rfl)) rfl (tle rfl (rfl) rfl tln))) oln noS) ?_
  rintro n s ⟨k, hn, hk1, rfl⟩
  all_goals refine awp_seq (awp_seq (awp_region (id := 4) ?_))
  all_goals refine awpOps_cons (op_mv rfl (Conv.of rfl) rfl) ?_
  all_goals refine awpOps_cons (op_mv rfl (Conv.of rfl) rfl) ?_
  all_goals refine awpOps_cons (op_len sl89 rfl rfl) ?_
  all_goals refine awpOps_cons (op_lss rfl rfl rfl) ?_
  all_goals refine awpOps_nil ?_
  refine awp_cond rfl (fun h => ?_) (fun h => ?_)
  · have hlt : k < (allOfS l).length := by simpa using h
    have hx : (allOfS l)[k]? = some (allOfS l)[k] := List.getElem?_eq_getElem hlt
    refine awp_skip ?_
    refine awp_seq (awp_block ?_)
    all_goals refine awp_seq (awp_region (id := 6) ?_)
    all_goals refine awpOps_cons (op_mv rfl (Conv.of rfl) rfl) ?_
    all_goals refine awpOps_cons (op_mv rfl (Conv.of rfl) rfl) ?_
    all_goals refine awpOps_cons (op_ix sl89 rfl rfl rfl (by omega) hx) ?_
    all_goals refine awpOps_cons (op_ldr ty26 rfl rfl) ?_
    all_goals refine awpOps_cons (op_len sl26 rfl rfl) ?_
    all_goals refine awpOps_cons (op_mv rfl (Conv.of rfl) rfl) ?_
    all_goals refine awpOps_cons (op_len sl26 rfl rfl) ?_
    all_goals refine awpOps_cons (op_gtr rfl rfl rfl) ?_
    all_goals refine awpOps_nil ?_
    refine awp_cond rfl (fun hb => ?_) (fun hb => ?_)
    · have hb'' : decide ((((allOfS l).take k).foldl tipStep []).length < ((allOfS l)[k]).length) = true := by simp at hb ⊢; omega
      all_goals refine awp_region (id := 7) ?_
      all_goals refine awpOps_cons (op_mv rfl (Conv.of rfl) rfl) ?_
      all_goals refine awpOps_cons (op_mv rfl (Conv.of rfl) rfl) ?_
      all_goals refine awpOps_cons (op_ix sl89 rfl rfl rfl (by omega) hx) ?_
      all_goals refine awpOps_cons (op_ldr ty26 rfl rfl) ?_
      all_goals refine awpOps_cons (op_as rfl (Conv.of rfl) rfl) ?_
      all_goals refine awpOps_nil ?_
      all_goals refine awp_region (id := 5) ?_
      all_goals refine awpOps_cons (op_mv rfl (Conv.of rfl) rfl) ?_
      all_goals refine awpOps_cons (op_add rfl rfl rfl (by omega)) ?_
      all_goals refine awpOps_cons (op_as rfl (Conv.of rfl) rfl) ?_
      all_goals refine awpOps_nil ?_
      repeat first | refine nx_seq ?_ | refine nx_block ?_
      exact ⟨n - 1, _, by omega, ⟨k + 1, by omega, by omega, rfl⟩, Le.mk rfl (tle rfl (rfl) rfl (tle rfl (by (first | (show AV.v _ = AV.v _; rw [show (allOfS l).take 1 = [[]] from by rw [take_at h0]; rfl]; rfl) | rw [foldl_at _ _ hx]; simp only [tipStep, hb'']; try rfl)) rfl (tle rfl (rfl) rfl tln))) oln noS⟩
    · have hb'' : decide ((((allOfS l).take k).foldl tipStep []).length < ((allOfS l)[k]).length) = false := by simp at hb ⊢; omega
      refine awp_skip ?_
      all_goals refine awp_region (id := 5) ?_
      all_goals refine awpOps_cons (op_mv rfl (Conv.of rfl) rfl) ?_
      all_goals refine awpOps_cons (op_add rfl rfl rfl (by omega)) ?_
      all_goals refine awpOps_cons (op_as rfl (Conv.of rfl) rfl) ?_
      all_goals refine awpOps_nil ?_
      repeat first | refine nx_seq ?_ | refine nx_block ?_
      exact ⟨n - 1, _, by omega, ⟨k + 1, by omega, by omega, rfl⟩, Le.mk rfl (tle rfl (rfl) rfl (tle rfl (by (first | (show AV.v _ = AV.v _; rw [show (allOfS l).take 1 = [[]] from by rw [take_at h0]; rfl]; rfl) | rw [foldl_at _ _ hx]; simp only [tipStep, hb'']; try rfl)) rfl (tle rfl (rfl) rfl tln))) oln noS⟩
  · refine awp_exit ?_
    repeat refine ex_seq ?_
    refine ex_block ?_
    have hk : (allOfS l).length ≤ k := by simpa using h
    all_goals refine awp_seq (awp_region (id := 8) ?_)
    all_goals refine awpOps_cons (op_mv rfl (Conv.of rfl) rfl) ?_
    all_goals refine awpOps_cons (op_as rfl (Conv.of rfl) rfl) ?_
    all_goals refine awpOps_nil ?_
    refine awp_ret ?_
    repeat first | refine rt_seq ?_ | refine rt_block ?_
    refine finP (.v rfl (Conv.of rfl)) rfl ?_
    simp only [take_end hk]; rfl
end Go.Proofs.Ytmabpmlcclgecaa

/- The reference: a node proposes. -/
set_option linter.unusedVariables false
set_option linter.unusedSimpArgs false
namespace Go.Proofs.Ytmabpmlcclgecaa
open Go Go.Wt
set_option maxHeartbeats 1000000 in
theorem l12Propose_ct (n : Nod) (p : Pay) (hn : Gd n.seen) (he : 0 ≤ n.epoch ∧ n.epoch ≤ 30) : CtP Try.prog 128 [.v (sN n), .v p] (res3S (proposeS n p)) := by
  have htip := hn.tipS
  unfold sN
  refine Ct.intro Try.func128 rfl rfl ?_
  all_goals refine awp_seq (awp_region (id := 0) ?_)
  all_goals refine awpOps_cons (op_boxm (o := 0) ty25_NodS rfl rfl rfl rfl) ?_
  all_goals refine awpOps_cons (op_box (o := 1) ty36 rfl (Conv.of rfl) rfl rfl) ?_
  all_goals refine awpOps_cons (op_alloc (o := 2) z25_NodS rfl rfl) ?_
  all_goals refine awpOps_cons (op_alloc (o := 3) z28 rfl rfl) ?_
  all_goals refine awpOps_cons (op_as rfl (Conv.of rfl) rfl) ?_
  all_goals refine awpOps_nil ?_
  refine awp_seq (awp_seq_to (s' := mkSt 49 [(2, .box 0 (IsLens.whole NodS)), (3, .box 1 (IsLens.whole Pay)), (4, .box 2 (IsLens.whole NodS)), (5, .box 3 (IsLens.whole Vote)), (6, .v false), (25, .v (decide (n.epoch = 0) || decide (n.voted = n.epoch) || !decide (leadS n.epoch = n.id)))] [(0, .cell (sN n)), (1, .cell p), (2, .cell NodS.zero), (3, .cell Vote.zero)]) ?_ ?_)
  · all_goals refine dr_start (id := 1) ?_
    all_goals refine dr_cons (op_fab f25_1_NodS rfl rfl) ?_
    all_goals refine dr_cons (op_ld ty3 rfl rfl rfl) ?_
    all_goals refine dr_cons (op_eql rfl rfl rfl) ?_
    all_goals refine dr_cons (op_mv rfl (Conv.of rfl) rfl) ?_
    all_goals refine dr_split (t := 11) rfl (fun h => ?_) (fun h => ?_)
    all_goals first | refine dr_cons (g_off rfl rfl rfl rfl rfl) ?_ | refine dr_cons (g_on rfl rfl rfl (op_fab f25_2_NodS rfl rfl)) ?_
    all_goals first | refine dr_cons (g_off rfl rfl rfl rfl rfl) ?_ | refine dr_cons (g_on rfl rfl rfl (op_ld ty3 rfl rfl rfl)) ?_
    all_goals first | refine dr_cons (g_off rfl rfl rfl rfl rfl) ?_ | refine dr_cons (g_on rfl rfl rfl (op_fab f25_1_NodS rfl rfl)) ?_
    all_goals first | refine dr_cons (g_off rfl rfl rfl rfl rfl) ?_ | refine dr_cons (g_on rfl rfl rfl (op_ld ty3 rfl rfl rfl)) ?_
    all_goals first | refine dr_cons (g_off rfl rfl rfl rfl rfl) ?_ | refine dr_cons (g_on rfl rfl rfl (op_eql rfl rfl rfl)) ?_
    all_goals refine dr_cons (op_pick rfl rfl rfl rfl) ?_
    all_goals refine dr_cons (op_mv rfl (Conv.of rfl) rfl) ?_
    all_goals first | refine dr_lit (t := 18) (b := true) rfl ?_ | refine dr_split (t := 18) rfl (fun h => ?_) (fun h => ?_)
    all_goals first | refine dr_cons (g_off rfl rfl rfl rfl rfl) ?_ | refine dr_cons (g_on rfl rfl rfl (op_fab f25_1_NodS rfl rfl)) ?_
    all_goals first | refine dr_cons (g_off rfl rfl rfl rfl rfl) ?_ | refine dr_cons (g_on rfl rfl rfl (op_ld ty3 rfl rfl rfl)) ?_
    all_goals first | refine dr_cons (g_off rfl rfl rfl rfl rfl) ?_ | refine dr_cons (g_on rfl rfl rfl (op_call fb35 (.cons rfl (Conv.of rfl) (.nil _)) (l3Leader_ct _ (by show -1000 ≤ n.epoch ∧ n.epoch ≤ 1000000; omega)) (argOk rfl rfl argOk0) rfl rfl)) ?_
    all_goals first | refine dr_cons (g_off rfl rfl rfl rfl rfl) ?_ | refine dr_cons (g_on rfl rfl rfl (op_fab f25_0_NodS rfl rfl)) ?_
    all_goals first | refine dr_cons (g_off rfl rfl rfl rfl rfl) ?_ | refine dr_cons (g_on rfl rfl rfl (op_ld ty3 rfl rfl rfl)) ?_
    all_goals first | refine dr_cons (g_off rfl rfl rfl rfl rfl) ?_ | refine dr_cons (g_on rfl rfl rfl (op_neq rfl rfl rfl)) ?_
    all_goals refine dr_cons (op_pick rfl rfl rfl rfl) ?_
    all_goals refine dr_nil mixed rfl ?_
    all_goals exact Le.mk rfl (tlb rfl rfl rfl (tlb rfl rfl rfl (tlb rfl rfl rfl (tlb rfl rfl rfl (tle rfl (rfl) rfl (tle rfl (by (clear htip; simp_all [sN]; try (rw [Bool.eq_iff_iff]; simp))) rfl tln)))))) (olk rfl (by exact obOkN) (olk rfl (by exact obOk_cell) (olk rfl (by exact obOkN) (olk rfl (by exact obOk_cell) oln)))) noS
  refine awp_cond rfl (fun h => ?_) (fun h => ?_)
  · all_goals refine awp_seq (awp_region (id := 2) ?_)
    all_goals refine awpOps_cons (op_ldm ty25_NodS rfl rfl rfl) ?_
    all_goals refine awpOps_cons (op_build (.nil _) z28 rfl pl28 rfl) ?_
    all_goals refine awpOps_cons (op_stm ty25_NodS rfl rfl rfl) ?_
    all_goals refine awpOps_cons (op_st ty28 rfl rfl (Conv.of rfl) rfl) ?_
    all_goals refine awpOps_cons (op_as rfl (Conv.of rfl) rfl) ?_
    all_goals refine awpOps_nil ?_
    refine awp_ret ?_
    repeat first | refine rt_seq ?_ | refine rt_block ?_
    refine ⟨_, _, resNM (ol := []) (.cell ty25_NodS rfl rfl (.keep (.rc ty28 rfl rfl) (.keep (.v rfl (Conv.of rfl)) (.nil _)))) rfl (fun o ho => absurd (show o ∈ ([] : List Nat) from ho) (by simp)) oln noS, ?_, rfl⟩
    rw [proposeS, h, if_pos rfl]; rfl
  · refine awp_skip ?_
    all_goals refine awp_seq (dr_start (id := 3) ?_)
    all_goals refine dr_cons (op_fab f25_3_NodS rfl rfl) ?_
    all_goals refine dr_cons (op_ldl ty23_OListVote rfl rfl rfl) ?_
    all_goals refine dr_cons (op_call fb37 (.cons rfl (Conv.of rfl) (.nil _)) (l11Tip_ct _ hn.l hn.v) (argOk rfl rfl argOk0) rfl rfl) ?_
    all_goals refine dr_cons (op_call fb36 (.cons rfl (Conv.of rfl) (.nil _)) (l1Copy_ct _ (by show (tipOfS n.seen).length ≤ 1000000; omega)) (argOk rfl rfl argOk0) rfl rfl) ?_
    all_goals refine dr_cons (op_fab f25_1_NodS rfl rfl) ?_
    all_goals refine dr_cons (op_ld ty3 rfl rfl rfl) ?_
    all_goals refine dr_cons (op_ld ty36 rfl rfl rfl) ?_
    all_goals refine dr_cons (op_build (.cons f38_0 rfl (Conv.of rfl) (.cons f38_1 rfl (Conv.of rfl) (.nil _))) z38 rfl pl38 rfl) ?_
    all_goals refine dr_cons (op_bsl sl26 z38 (.cons rfl (Conv.of rfl) (.nil _)) rfl (by decide) rfl) ?_
    all_goals refine dr_cons (op_app sl26 z38 ul26 rfl rfl rfl (by (simp [sN]; omega)) (by (simp [sN]; omega)) rfl rfl) ?_
    all_goals refine dr_cons (op_asl rfl rfl rfl rfl) ?_
    all_goals refine dr_nil mixed rfl ?_
    all_goals refine awp_seq (awp_seq (awp_region (id := 4) ?_))
    all_goals refine awpOps_cons (op_mv rfl Conv.ol rfl) ?_
    all_goals refine awpOps_cons (op_call fb86 (.cons rfl (Conv.of rfl) (.nil _)) (sChainOk_ct _) (argOk rfl rfl argOk0) rfl rfl) ?_
    all_goals refine awpOps_cons (op_not rfl rfl) ?_
    all_goals refine awpOps_nil ?_
    refine awp_cond rfl (fun h2 => ?_) (fun h2 => ?_)
    · all_goals refine awp_seq (awp_region (id := 5) ?_)
      all_goals refine awpOps_cons (op_ldm ty25_NodS rfl rfl rfl) ?_
      all_goals refine awpOps_cons (op_build (.nil _) z28 rfl pl28 rfl) ?_
      all_goals refine awpOps_cons (op_stm ty25_NodS rfl rfl rfl) ?_
      all_goals refine awpOps_cons (op_st ty28 rfl rfl (Conv.of rfl) rfl) ?_
      all_goals refine awpOps_cons (op_as rfl (Conv.of rfl) rfl) ?_
      all_goals refine awpOps_nil ?_
      refine awp_ret ?_
      repeat first | refine rt_seq ?_ | refine rt_block ?_
      refine ⟨_, _, resNM (ol := []) (.cell ty25_NodS rfl rfl (.keep (.rc ty28 rfl rfl) (.keep (.v rfl (Conv.of rfl)) (.nil _)))) rfl (fun o ho => absurd (show o ∈ ([] : List Nat) from ho) (by simp)) oln noS, ?_, rfl⟩
      have h2' := not_t h2
      rw [proposeS, h, if_neg (by decide), if_neg (by rw [show chainOk (tipOfS n.seen ++ [⟨n.epoch, p⟩]) = false from h2']; decide)]; rfl
    · have h2' := not_f h2
      refine awp_skip ?_
      all_goals refine awp_seq (awp_region (id := 6) ?_)
      all_goals refine awpOps_cons (op_ldm ty25_NodS rfl rfl rfl) ?_
      all_goals refine awpOps_cons (op_mv rfl Conv.ol rfl) ?_
      all_goals refine awpOps_cons (op_callM (s := 43) (ol := []) (ol' := []) (pre := []) fb100 (.nil _) rfl (.cons rfl (Conv.of rfl) (.nil _)) (l12Vote_ct n _ hn (by simp [sN]; omega)) ols0 oks0 oks0 rfl argO0 (argOk' rfl rfl argO0) (fun o ho => absurd (show o ∈ ([] : List Nat) from ho) (by simp)) (fun o ho => absurd (show o ∈ ([] : List Nat) from ho) (by simp)) rfl) ?_
      all_goals refine awpOps_cons (op_extm rfl rfl rfl rfl) ?_
      all_goals refine awpOps_cons (op_ext rfl rfl rfl) ?_
      all_goals refine awpOps_cons (op_ext rfl rfl rfl) ?_
      all_goals refine awpOps_cons (op_stm ty25_NodS rfl rfl rfl) ?_
      all_goals refine awpOps_cons (op_st ty28 rfl rfl (Conv.of rfl) rfl) ?_
      all_goals refine awpOps_cons (op_as rfl (Conv.of rfl) rfl) ?_
      all_goals refine awpOps_nil ?_
      refine awp_ret ?_
      repeat first | refine rt_seq ?_ | refine rt_block ?_
      refine ⟨_, _, resNM (ol := []) (.cell ty25_NodS rfl rfl (.keep (.rc ty28 rfl rfl) (.keep (.v rfl (Conv.of rfl)) (.nil _)))) rfl (fun o ho => absurd (show o ∈ ([] : List Nat) from ho) (by simp)) oln noS, ?_, rfl⟩
      rw [proposeS, h, if_neg (by decide), if_pos (show chainOk (tipOfS n.seen ++ [⟨n.epoch, p⟩]) = true from h2')]
      show AV.tup _ = AV.tup _
      rfl
end Go.Proofs.Ytmabpmlcclgecaa

/- The reference: new nodes; room for votes. -/
set_option linter.unusedVariables false
set_option linter.unusedSimpArgs false
namespace Go.Proofs.Ytmabpmlcclgecaa
open Go Go.Wt
theorem sNodeNew_ct (i : Int) (hi : within i 1 4 = true) : CtP Try.prog 115 [.v i] (.tup [.v (NodC.mk i 0 0 ⟨[]⟩), .v true]) := by
  refine Ct.intro Try.func115 rfl rfl ?_
  all_goals refine awp_seq (awp_region (id := 0) ?_)
  all_goals refine awpOps_cons (op_alloc (o := 0) z25_NodC rfl rfl) ?_
  all_goals refine awpOps_cons (op_as rfl (Conv.of rfl) rfl) ?_
  all_goals refine awpOps_nil ?_
  all_goals refine awp_seq (awp_seq (awp_region (id := 1) ?_))
  all_goals refine awpOps_cons (op_mv rfl (Conv.of rfl) rfl) ?_
  all_goals refine awpOps_cons (op_call fb51 (.cons rfl (Conv.of rfl) (.cons rfl (Conv.of rfl) (.cons rfl (Conv.of rfl) (.nil _)))) (l6In_ct _ _ _) (argOk rfl rfl (argOk rfl rfl (argOk rfl rfl argOk0))) rfl rfl) ?_
  all_goals refine awpOps_cons (op_not rfl rfl) ?_
  all_goals refine awpOps_nil ?_
  refine awp_cond rfl (fun h => absurd (not_t h) (by rw [hi]; decide)) (fun h => ?_)
  refine awp_skip ?_
  all_goals refine awp_seq (awp_region (id := 3) ?_)
  all_goals refine awpOps_cons (op_mv rfl (Conv.of rfl) rfl) ?_
  all_goals refine awpOps_cons (op_bsc sl23 z28 (.nil _) rfl (by decide) rfl) ?_
  all_goals refine awpOps_cons (op_build (.cons f25_0_NodC rfl (Conv.of rfl) (.cons f25_3_NodC rfl (Conv.of rfl) (.nil _))) z25_NodC rfl pl25 rfl) ?_
  all_goals refine awpOps_cons (op_st ty25_NodC rfl rfl (Conv.of rfl) rfl) ?_
  all_goals refine awpOps_cons (op_as rfl (Conv.of rfl) rfl) ?_
  all_goals refine awpOps_nil ?_
  refine awp_ret ?_
  repeat first | refine rt_seq ?_ | refine rt_block ?_
  exact finN (.cons (.rc ty25_NodC rfl rfl) (.cons (.v rfl (Conv.of rfl)) .nil)) rfl rfl rfl
theorem l21Send_ct (w : Wrld) (v : Vote) (ok : Bool) (ns : List NodS) (hl : Gd w.log) (hv : v.chain.length ≤ 1000000) : CtO Try.prog 119 [.v (sW w), .v v, .v ok] [(1, .arr ns)] (.v (sW (if ok then sendF w v else w))) [(1, .arr ns)] := by
  have hlen := hl.len
  unfold sW
  refine Ct.intro Try.func119 rfl rfl ?_
  all_goals refine awp_seq (awp_region (id := 0) ?_)
  all_goals refine awpOps_cons (op_boxm (o := 5) ty61_WrldS rfl rfl rfl rfl) ?_
  all_goals refine awpOps_cons (op_box (o := 6) ty28 rfl (Conv.of rfl) rfl rfl) ?_
  all_goals refine awpOps_cons (op_alloc (o := 7) z61_WrldS rfl rfl) ?_
  all_goals refine awpOps_nil ?_
  refine awp_seq (awp_seq_to (s' := mkSt 26 [(3, .box 5 (IsLens.whole WrldS)), (4, .box 6 (IsLens.whole Vote)), (6, .box 7 (IsLens.whole WrldS)), (15, .v (ok && decide (w.log.length < 80)))] [(1, .arr ns), (5, .cell (sW w)), (6, .cell v), (7, .cell WrldS.zero)]) ?_ ?_)
  · all_goals refine awp_region (id := 1) ?_
    all_goals refine awpOps_cons (op_mv rfl (Conv.of rfl) rfl) ?_
    all_goals refine awpOps_cons (op_mv rfl (Conv.of rfl) rfl) ?_
    all_goals refine g_split (t := 10) rfl (fun h => ?_) (fun h => ?_)
    all_goals first | refine awpOps_cons (g_off rfl rfl rfl rfl rfl) ?_ | refine awpOps_cons (g_on rfl rfl rfl (op_fab f61_2_WrldS rfl rfl)) ?_
    all_goals first | refine awpOps_cons (g_off rfl rfl rfl rfl rfl) ?_ | refine awpOps_cons (g_on rfl rfl rfl (op_ldl ty23_OListVote rfl rfl rfl)) ?_
    all_goals first | refine awpOps_cons (g_off rfl rfl rfl rfl rfl) ?_ | refine awpOps_cons (g_on rfl rfl rfl (op_len sl23 rfl rfl)) ?_
    all_goals first | refine awpOps_cons (g_off rfl rfl rfl rfl rfl) ?_ | refine awpOps_cons (g_on rfl rfl rfl (op_lss rfl rfl rfl)) ?_
    all_goals refine awpOps_cons (op_pick rfl rfl rfl rfl) ?_
    all_goals refine awpOps_nil ?_
    all_goals exact Le.mk rfl (tlb rfl rfl rfl (tlb rfl rfl rfl (tlb rfl rfl rfl (tle rfl (by (simp_all; try omega)) rfl tln)))) (olk rfl (by exact obOkNs) (olk rfl (by exact obOkS rfl) (olk rfl (by exact obOk_cell) (olk rfl (by exact obOkS0) oln)))) (hS_sub (a := [(1, .arr ns)]) rfl)
  refine awp_cond rfl (fun h => ?_) (fun h => ?_)
  · all_goals refine awp_seq (awp_region (id := 2) ?_)
    all_goals refine awpOps_cons (op_fab f61_2_WrldS rfl rfl) ?_
    all_goals refine awpOps_cons (op_ldm ty23_OListVote rfl rfl rfl) ?_
    all_goals refine awpOps_cons (op_ld ty28 rfl rfl rfl) ?_
    all_goals refine awpOps_cons (op_callM (s := 18) (ol := []) (ol' := []) (pre := []) fb67 (.nil _) rfl (.cons rfl (Conv.of rfl) (.nil _)) (l3Add_ct w.log v hl.l' hv) ols0 oks0 oks0 rfl argO0 (argOk' rfl rfl argO0) (fun o ho => absurd (show o ∈ ([] : List Nat) from ho) (by simp)) (fun o ho => absurd (show o ∈ ([] : List Nat) from ho) (by simp)) rfl) ?_
    all_goals refine awpOps_cons (op_mvo rfl rfl rfl rfl) ?_
    all_goals refine awpOps_cons (op_extm rfl rfl rfl rfl) ?_
    all_goals refine awpOps_cons (op_ext rfl rfl rfl) ?_
    all_goals refine awpOps_cons (op_asl rfl rfl rfl rfl) ?_
    all_goals refine awpOps_cons (op_as rfl (Conv.of rfl) rfl) ?_
    all_goals refine awpOps_nil ?_
    all_goals refine awp_region (id := 3) ?_
    all_goals refine awpOps_cons (op_mvl rfl rfl rfl rfl) ?_
    all_goals refine awpOps_cons (op_fab f61_2_WrldS rfl rfl) ?_
    all_goals refine awpOps_cons (op_stm ty23_OListVote rfl rfl rfl) ?_
    all_goals refine awpOps_nil ?_
    all_goals refine awp_seq (awp_region (id := 4) ?_)
    all_goals refine awpOps_cons (op_ldm ty61_WrldS rfl rfl rfl) ?_
    all_goals refine awpOps_cons (op_stm ty61_WrldS rfl rfl rfl) ?_
    all_goals refine awpOps_nil ?_
    refine awp_ret ?_
    repeat first | refine rt_seq ?_ | refine rt_block ?_
    refine ⟨_, _, res1C (ol := [(1, .arr ns)]) ty61_WrldS rfl rfl (fun o ho => ?_) (olk rfl obOkNs oln) (hS_sub rfl), ?_, rfl⟩
    · have : o = 1 := by simpa using (show o ∈ [1] from ho)
      subst this; rfl
    · simp only [Bool.and_eq_true, decide_eq_true_eq] at h
      obtain ⟨rfl, h2⟩ := h
      show AV.v (WrldS.mk w.epoch (.ref 1) ⟨if decide (v ∈ w.log) then w.log else w.log ++ [v], true⟩ w.bad) = _
      by_cases hm : v ∈ w.log <;> simp [sendF, hm, h2, sW]
  · refine awp_skip ?_
    all_goals refine awp_seq (awp_region (id := 4) ?_)
    all_goals refine awpOps_cons (op_ldm ty61_WrldS rfl rfl rfl) ?_
    all_goals refine awpOps_cons (op_stm ty61_WrldS rfl rfl rfl) ?_
    all_goals refine awpOps_nil ?_
    refine awp_ret ?_
    repeat first | refine rt_seq ?_ | refine rt_block ?_
    refine ⟨_, _, res1C (ol := [(1, .arr ns)]) ty61_WrldS rfl rfl (fun o ho => ?_) (olk rfl obOkNs oln) (hS_sub rfl), ?_, rfl⟩
    · have : o = 1 := by simpa using (show o ∈ [1] from ho)
      subst this; rfl
    · show AV.v (sW w) = _
      cases ok with
      | false => rfl
      | true =>
        have h2 : ¬ w.log.length < 80 := by simpa using h
        simp [sendF, h2]
        rfl
end Go.Proofs.Ytmabpmlcclgecaa

/- The reference: room for votes. -/
set_option linter.unusedVariables false
set_option linter.unusedSimpArgs false
namespace Go.Proofs.Ytmabpmlcclgecaa
open Go Go.Wt
theorem l21Room_ct (w : Wrld) (ns : List NodS) : CtO Try.prog 127 [.v (fW w)] [(1, .arr ns)] (.v (decide (w.log.length < 80))) [(1, .arr ns)] := by
  unfold fW
  refine Ct.intro Try.func127 rfl rfl ?_
  all_goals refine awp_seq (awp_region (id := 0) ?_)
  all_goals refine awpOps_cons (op_box (o := 5) ty61_WrldS rfl (Conv.of rfl) rfl rfl) ?_
  all_goals refine awpOps_cons (op_as rfl (Conv.of rfl) rfl) ?_
  all_goals refine awpOps_nil ?_
  all_goals refine awp_seq (awp_region (id := 1) ?_)
  all_goals refine awpOps_cons (op_fab f61_2_WrldS rfl rfl) ?_
  all_goals refine awpOps_cons (op_ldl ty23_OListVote rfl rfl rfl) ?_
  all_goals refine awpOps_cons (op_len sl23 rfl rfl) ?_
  all_goals refine awpOps_cons (op_lss rfl rfl rfl) ?_
  all_goals refine awpOps_cons (op_as rfl (Conv.of rfl) rfl) ?_
  all_goals refine awpOps_nil ?_
  refine awp_ret ?_
  repeat first | refine rt_seq ?_ | refine rt_block ?_
  refine finO1 [(1, .arr ns)] (.v rfl (Conv.of rfl)) (fun o ho => by cases ho) (olk rfl obOkNs oln) (hS_keys rfl) ?_
  show AV.v _ = AV.v _
  congr 1
  rw [decide_eq_decide]
  show (w.log.length : Int) < 80 ↔ _
  omega
end Go.Proofs.Ytmabpmlcclgecaa

/- The reference: a new world. -/
set_option linter.unusedVariables false
set_option linter.unusedSimpArgs false
namespace Go.Proofs.Ytmabpmlcclgecaa
open Go Go.Wt
def newC (i : Int) : NodC := ⟨i, 0, 0, ⟨[]⟩⟩
theorem sWorldNew_ct (bad : Int) (hb : within bad 0 4 = true) : Ct Try.prog 92 [.v bad] noObj (fun r1 h1 => r1 = .tup [.v (sW (newW bad)), .v true] ∧ h1 = obs [(1, .arr ([newC 1, newC 2, newC 3, newC 4] : List NodC))]) := by
  refine Ct.intro Try.func92 rfl rfl ?_
  all_goals refine awp_seq (awp_region (id := 0) ?_)
  all_goals refine awpOps_cons (op_alloc (o := 5) z61_WrldS rfl rfl) ?_
  all_goals refine awpOps_cons (op_as rfl (Conv.of rfl) rfl) ?_
  all_goals refine awpOps_nil ?_
  all_goals refine awp_seq (awp_seq (awp_region (id := 1) ?_))
  all_goals refine awpOps_cons (op_mv rfl (Conv.of rfl) rfl) ?_
  all_goals refine awpOps_cons (op_call fb51 (.cons rfl (Conv.of rfl) (.cons rfl (Conv.of rfl) (.cons rfl (Conv.of rfl) (.nil _)))) (l6In_ct _ _ _) (argOk rfl rfl (argOk rfl rfl (argOk rfl rfl argOk0))) rfl rfl) ?_
  all_goals refine awpOps_cons (op_not rfl rfl) ?_
  all_goals refine awpOps_nil ?_
  refine awp_cond rfl (fun h => absurd (not_t h) (by rw [hb]; decide)) (fun h => ?_)
  refine awp_skip ?_
  all_goals refine awp_seq (awp_region (id := 3) ?_)
  all_goals refine awpOps_cons (op_mv rfl (Conv.of rfl) rfl) ?_
  all_goals refine awpOps_cons (op_bsc sl23 z28 (.nil _) rfl (by decide) rfl) ?_
  all_goals refine awpOps_cons (op_build (.cons f61_3_WrldS rfl (Conv.of rfl) (.cons f61_2_WrldS rfl (Conv.co) (.nil _))) z61_WrldS rfl pl61 rfl) ?_
  all_goals refine awpOps_cons (op_alloc (o := 0) z61_WrldS rfl rfl) ?_
  all_goals refine awpOps_cons (op_stm ty61_WrldS rfl rfl rfl) ?_
  all_goals refine awpOps_nil ?_
  all_goals refine awp_seq (awp_seq (awp_region (id := 4) ?_))
  all_goals refine awpOps_cons (op_as rfl (Conv.of rfl) rfl) ?_
  all_goals refine awpOps_nil ?_
  refine awp_block ?_
  refine awp_loop' (fun n s => (n = 4 ∧ s = mkSt 31 [(2, .box 5 (IsLens.whole WrldS)), (4, .box 0 (IsLens.whole WrldS)), (5, .v (1 : Int))] [(0, .cell (WrldS.mk 0 .nil ⟨[], true⟩ bad)), (5, .cell WrldS.zero)]) ∨ (n = 3 ∧ s = mkSt 31 [(2, .box 5 (IsLens.whole WrldS)), (4, .box 0 (IsLens.whole WrldS)), (5, .v (2 : Int))] [(0, .cell (WrldS.mk 0 (.ref 11) ⟨[], true⟩ bad)), (5, .cell WrldS.zero), (11, .arr ([newC 1] : List NodC))]) ∨ (n = 2 ∧ s = mkSt 31 [(2, .box 5 (IsLens.whole WrldS)), (4, .box 0 (IsLens.whole WrldS)), (5, .v (3 : Int))] [(0, .cell (WrldS.mk 0 (.ref 12) ⟨[], true⟩ bad)), (5, .cell WrldS.zero), (12, .arr ([newC 1, newC 2] : List NodC))]) ∨ (n = 1 ∧ s = mkSt 31 [(2, .box 5 (IsLens.whole WrldS)), (4, .box 0 (IsLens.whole WrldS)), (5, .v (4 : Int))] [(0, .cell (WrldS.mk 0 (.ref 13) ⟨[], true⟩ bad)), (5, .cell WrldS.zero), (13, .arr ([newC 1, newC 2, newC 3] : List NodC))]) ∨ (n = 0 ∧ s = mkSt 31 [(2, .box 5 (IsLens.whole WrldS)), (4, .box 0 (IsLens.whole WrldS)), (5, .v (5 : Int))] [(0, .cell (WrldS.mk 0 (.ref 1) ⟨[], true⟩ bad)), (5, .cell WrldS.zero), (1, .arr ([newC 1, newC 2, newC 3, newC 4] : List NodC))])) 4 (.inl ⟨rfl, rfl⟩) (Le.mk rfl (tlb rfl rfl rfl (tlb rfl rfl rfl (tle rfl (rfl) rfl tln))) (olk rfl (by exact obOkS0) (olk rfl (by exact obOkS0) oln)) noS) ?_
  rintro n s (⟨rfl, rfl⟩|⟨rfl, rfl⟩|⟨rfl, rfl⟩|⟨rfl, rfl⟩|⟨rfl, rfl⟩)
  · all_goals refine awp_seq (awp_seq (awp_region (id := 5) ?_))
    all_goals refine awpOps_cons (op_mv rfl (Conv.of rfl) rfl) ?_
    all_goals refine awpOps_cons (op_leq rfl rfl rfl) ?_
    all_goals refine awpOps_nil ?_
    refine awp_cond rfl (fun h => ?_) (fun h => absurd h (by decide))
    refine awp_skip ?_
    refine awp_seq (awp_block ?_)
    all_goals refine awp_seq (awp_region (id := 7) ?_)
    all_goals refine awpOps_cons (op_mv rfl (Conv.of rfl) rfl) ?_
    all_goals refine awpOps_cons (op_call fb115 (.cons rfl (Conv.of rfl) (.nil _)) (sNodeNew_ct 1 rfl) (argOk rfl rfl argOk0) rfl rfl) ?_
    all_goals refine awpOps_cons (op_mv rfl (Conv.of rfl) rfl) ?_
    all_goals refine awpOps_cons (op_ext rfl rfl rfl) ?_
    all_goals refine awpOps_cons (op_ext rfl rfl rfl) ?_
    all_goals refine awpOps_cons (op_alloc (o := 6) z25_NodC rfl rfl) ?_
    all_goals refine awpOps_cons (op_st ty25_NodC rfl rfl (Conv.of rfl) rfl) ?_
    all_goals refine awpOps_cons (op_as rfl (Conv.of rfl) rfl) ?_
    all_goals refine awpOps_nil ?_
    all_goals refine awp_region (id := 8) ?_
    all_goals refine awpOps_cons (op_fab f61_1_WrldS rfl rfl) ?_
    all_goals refine awpOps_cons (op_ld ty59_NRef rfl rfl rfl) ?_
    all_goals refine awpOps_cons (op_ld ty25_NodC rfl rfl rfl) ?_
    all_goals refine awpOps_cons (op_bsl sl59_NodC z25_NodC (.cons rfl (Conv.of rfl) (.nil _)) rfl (by decide) rfl) ?_
    all_goals refine awpOps_cons (op_apN (o' := 11) sl59_NodC z25_NodC ul59 rfl rfl rfl (by simp) (by simp) (by simp) rfl) ?_
    all_goals refine awpOps_cons (op_fab f61_1_WrldS rfl rfl) ?_
    all_goals refine awpOps_cons (op_st ty59_NRef rfl rfl (Conv.of rfl) rfl) ?_
    all_goals refine awpOps_nil ?_
    all_goals refine awp_region (id := 6) ?_
    all_goals refine awpOps_cons (op_mv rfl (Conv.of rfl) rfl) ?_
    all_goals refine awpOps_cons (op_add rfl rfl rfl (by omega)) ?_
    all_goals refine awpOps_cons (op_as rfl (Conv.of rfl) rfl) ?_
    all_goals refine awpOps_nil ?_
    repeat first | refine nx_seq ?_ | refine nx_block ?_
    exact ⟨3, _, by decide, .inr (.inl ⟨rfl, rfl⟩), Le.mk rfl (tlb rfl rfl rfl (tlb rfl rfl rfl (tle rfl (rfl) rfl tln))) (olk rfl (by exact obOkS rfl) (olk rfl (by exact obOkS0) (olk rfl (by exact obOk_arr) oln))) noS⟩
  · all_goals refine awp_seq (awp_seq (awp_region (id := 5) ?_))
    all_goals refine awpOps_cons (op_mv rfl (Conv.of rfl) rfl) ?_
    all_goals refine awpOps_cons (op_leq rfl rfl rfl) ?_
    all_goals refine awpOps_nil ?_
    refine awp_cond rfl (fun h => ?_) (fun h => absurd h (by decide))
    refine awp_skip ?_
    refine awp_seq (awp_block ?_)
    all_goals refine awp_seq (awp_region (id := 7) ?_)
    all_goals refine awpOps_cons (op_mv rfl (Conv.of rfl) rfl) ?_
    all_goals refine awpOps_cons (op_call fb115 (.cons rfl (Conv.of rfl) (.nil _)) (sNodeNew_ct 2 rfl) (argOk rfl rfl argOk0) rfl rfl) ?_
    all_goals refine awpOps_cons (op_mv rfl (Conv.of rfl) rfl) ?_
    all_goals refine awpOps_cons (op_ext rfl rfl rfl) ?_
    all_goals refine awpOps_cons (op_ext rfl rfl rfl) ?_
    all_goals refine awpOps_cons (op_alloc (o := 6) z25_NodC rfl rfl) ?_
    all_goals refine awpOps_cons (op_st ty25_NodC rfl rfl (Conv.of rfl) rfl) ?_
    all_goals refine awpOps_cons (op_as rfl (Conv.of rfl) rfl) ?_
    all_goals refine awpOps_nil ?_
    all_goals refine awp_region (id := 8) ?_
    all_goals refine awpOps_cons (op_fab f61_1_WrldS rfl rfl) ?_
    all_goals refine awpOps_cons (op_ld ty59_NRef rfl rfl rfl) ?_
    all_goals refine awpOps_cons (op_ld ty25_NodC rfl rfl rfl) ?_
    all_goals refine awpOps_cons (op_bsl sl59_NodC z25_NodC (.cons rfl (Conv.of rfl) (.nil _)) rfl (by decide) rfl) ?_
    all_goals refine awpOps_cons (op_apA (o' := 12) sl59_NodC z25_NodC ul59 rfl rfl rfl rfl (by simp) (by simp) (by simp) rfl) ?_
    all_goals refine awpOps_cons (op_fab f61_1_WrldS rfl rfl) ?_
    all_goals refine awpOps_cons (op_st ty59_NRef rfl rfl (Conv.of rfl) rfl) ?_
    all_goals refine awpOps_nil ?_
    all_goals refine awp_region (id := 6) ?_
    all_goals refine awpOps_cons (op_mv rfl (Conv.of rfl) rfl) ?_
    all_goals refine awpOps_cons (op_add rfl rfl rfl (by omega)) ?_
    all_goals refine awpOps_cons (op_as rfl (Conv.of rfl) rfl) ?_
    all_goals refine awpOps_nil ?_
    repeat first | refine nx_seq ?_ | refine nx_block ?_
    exact ⟨2, _, by decide, .inr (.inr (.inl ⟨rfl, rfl⟩)), Le.mk rfl (tlb rfl rfl rfl (tlb rfl rfl rfl (tle rfl (rfl) rfl tln))) (olk rfl (by exact obOkS rfl) (olk rfl (by exact obOkS0) (olk rfl (by exact obOk_arr) oln))) noS⟩
  · all_goals refine awp_seq (awp_seq (awp_region (id := 5) ?_))
    all_goals refine awpOps_cons (op_mv rfl (Conv.of rfl) rfl) ?_
    all_goals refine awpOps_cons (op_leq rfl rfl rfl) ?_
    all_goals refine awpOps_nil ?_
    refine awp_cond rfl (fun h => ?_) (fun h => absurd h (by decide))
    refine awp_skip ?_
    refine awp_seq (awp_block ?_)
    all_goals refine awp_seq (awp_region (id := 7) ?_)
    all_goals refine awpOps_cons (op_mv rfl (Conv.of rfl) rfl) ?_
    all_goals refine awpOps_cons (op_call fb115 (.cons rfl (Conv.of rfl) (.nil _)) (sNodeNew_ct 3 rfl) (argOk rfl rfl argOk0) rfl rfl) ?_
    all_goals refine awpOps_cons (op_mv rfl (Conv.of rfl) rfl) ?_
    all_goals refine awpOps_cons (op_ext rfl rfl rfl) ?_
    all_goals refine awpOps_cons (op_ext rfl rfl rfl) ?_
    all_goals refine awpOps_cons (op_alloc (o := 6) z25_NodC rfl rfl) ?_
    all_goals refine awpOps_cons (op_st ty25_NodC rfl rfl (Conv.of rfl) rfl) ?_
    all_goals refine awpOps_cons (op_as rfl (Conv.of rfl) rfl) ?_
    all_goals refine awpOps_nil ?_
    all_goals refine awp_region (id := 8) ?_
    all_goals refine awpOps_cons (op_fab f61_1_WrldS rfl rfl) ?_
    all_goals refine awpOps_cons (op_ld ty59_NRef rfl rfl rfl) ?_
    all_goals refine awpOps_cons (op_ld ty25_NodC rfl rfl rfl) ?_
    all_goals refine awpOps_cons (op_bsl sl59_NodC z25_NodC (.cons rfl (Conv.of rfl) (.nil _)) rfl (by decide) rfl) ?_
    all_goals refine awpOps_cons (op_apA (o' := 13) sl59_NodC z25_NodC ul59 rfl rfl rfl rfl (by simp) (by simp) (by simp) rfl) ?_
    all_goals refine awpOps_cons (op_fab f61_1_WrldS rfl rfl) ?_
    all_goals refine awpOps_cons (op_st ty59_NRef rfl rfl (Conv.of rfl) rfl) ?_
    all_goals refine awpOps_nil ?_
    all_goals refine awp_region (id := 6) ?_
    all_goals refine awpOps_cons (op_mv rfl (Conv.of rfl) rfl) ?_
    all_goals refine awpOps_cons (op_add rfl rfl rfl (by omega)) ?_
    all_goals refine awpOps_cons (op_as rfl (Conv.of rfl) rfl) ?_
    all_goals refine awpOps_nil ?_
    repeat first | refine nx_seq ?_ | refine nx_block ?_
    exact ⟨1, _, by decide, .inr (.inr (.inr (.inl ⟨rfl, rfl⟩))), Le.mk rfl (tlb rfl rfl rfl (tlb rfl rfl rfl (tle rfl (rfl) rfl tln))) (olk rfl (by exact obOkS rfl) (olk rfl (by exact obOkS0) (olk rfl (by exact obOk_arr) oln))) noS⟩
  · all_goals refine awp_seq (awp_seq (awp_region (id := 5) ?_))
    all_goals refine awpOps_cons (op_mv rfl (Conv.of rfl) rfl) ?_
    all_goals refine awpOps_cons (op_leq rfl rfl rfl) ?_
    all_goals refine awpOps_nil ?_
    refine awp_cond rfl (fun h => ?_) (fun h => absurd h (by decide))
    refine awp_skip ?_
    refine awp_seq (awp_block ?_)
    all_goals refine awp_seq (awp_region (id := 7) ?_)
    all_goals refine awpOps_cons (op_mv rfl (Conv.of rfl) rfl) ?_
    all_goals refine awpOps_cons (op_call fb115 (.cons rfl (Conv.of rfl) (.nil _)) (sNodeNew_ct 4 rfl) (argOk rfl rfl argOk0) rfl rfl) ?_
    all_goals refine awpOps_cons (op_mv rfl (Conv.of rfl) rfl) ?_
    all_goals refine awpOps_cons (op_ext rfl rfl rfl) ?_
    all_goals refine awpOps_cons (op_ext rfl rfl rfl) ?_
    all_goals refine awpOps_cons (op_alloc (o := 6) z25_NodC rfl rfl) ?_
    all_goals refine awpOps_cons (op_st ty25_NodC rfl rfl (Conv.of rfl) rfl) ?_
    all_goals refine awpOps_cons (op_as rfl (Conv.of rfl) rfl) ?_
    all_goals refine awpOps_nil ?_
    all_goals refine awp_region (id := 8) ?_
    all_goals refine awpOps_cons (op_fab f61_1_WrldS rfl rfl) ?_
    all_goals refine awpOps_cons (op_ld ty59_NRef rfl rfl rfl) ?_
    all_goals refine awpOps_cons (op_ld ty25_NodC rfl rfl rfl) ?_
    all_goals refine awpOps_cons (op_bsl sl59_NodC z25_NodC (.cons rfl (Conv.of rfl) (.nil _)) rfl (by decide) rfl) ?_
    all_goals refine awpOps_cons (op_apA (o' := 1) sl59_NodC z25_NodC ul59 rfl rfl rfl rfl (by simp) (by simp) (by simp) rfl) ?_
    all_goals refine awpOps_cons (op_fab f61_1_WrldS rfl rfl) ?_
    all_goals refine awpOps_cons (op_st ty59_NRef rfl rfl (Conv.of rfl) rfl) ?_
    all_goals refine awpOps_nil ?_
    all_goals refine awp_region (id := 6) ?_
    all_goals refine awpOps_cons (op_mv rfl (Conv.of rfl) rfl) ?_
    all_goals refine awpOps_cons (op_add rfl rfl rfl (by omega)) ?_
    all_goals refine awpOps_cons (op_as rfl (Conv.of rfl) rfl) ?_
    all_goals refine awpOps_nil ?_
    repeat first | refine nx_seq ?_ | refine nx_block ?_
    exact ⟨0, _, by decide, .inr (.inr (.inr (.inr (⟨rfl, rfl⟩)))), Le.mk rfl (tlb rfl rfl rfl (tlb rfl rfl rfl (tle rfl (rfl) rfl tln))) (olk rfl (by exact obOkS rfl) (olk rfl (by exact obOkS0) (olk rfl (by exact obOk_arr) oln))) noS⟩
  · all_goals refine awp_seq (awp_seq (awp_region (id := 5) ?_))
    all_goals refine awpOps_cons (op_mv rfl (Conv.of rfl) rfl) ?_
    all_goals refine awpOps_cons (op_leq rfl rfl rfl) ?_
    all_goals refine awpOps_nil ?_
    refine awp_cond rfl (fun h => absurd h (by decide)) (fun h => ?_)
    refine awp_exit ?_
    repeat refine ex_seq ?_
    refine ex_block ?_
    all_goals refine awp_seq (awp_region (id := 9) ?_)
    all_goals refine awpOps_cons (op_ldm ty61_WrldS rfl rfl rfl) ?_
    all_goals refine awpOps_cons (op_stm ty61_WrldS rfl rfl rfl) ?_
    all_goals refine awpOps_cons (op_as rfl (Conv.of rfl) rfl) ?_
    all_goals refine awpOps_nil ?_
    refine awp_ret ?_
    repeat first | refine rt_seq ?_ | refine rt_block ?_
    refine ⟨_, _, resNM (ol := [(1, .arr ([newC 1, newC 2, newC 3, newC 4] : List NodC))]) (.cell ty61_WrldS rfl rfl (.keep (.v rfl (Conv.of rfl)) (.nil _))) rfl (fun o ho => ?_) (olk rfl obOk_arr oln) noS, rfl, rfl⟩
    have : o = 1 := by simpa using (show o ∈ [1] from ho)
    subst this; rfl
end Go.Proofs.Ytmabpmlcclgecaa

/- The reference: a node hears. -/
set_option linter.unusedVariables false
set_option linter.unusedSimpArgs false
namespace Go.Proofs.Ytmabpmlcclgecaa
open Go Go.Wt
set_option maxHeartbeats 2000000 in
theorem l12Try_ct (n : Nod) (hn : Gd n.seen) (he : 0 ≤ n.epoch ∧ n.epoch ≤ 30) : CtP Try.prog 68 [.v (sN n)] (res3S (tryAllS n)) := by
  have htip := hn.tipS
  have hlen := hn.len
  refine Ct.intro Try.func68 rfl rfl ?_
  all_goals refine awp_seq (awp_region (id := 0) ?_)
  all_goals refine awpOps_cons (op_boxm (o := 0) ty25_NodS rfl rfl rfl rfl) ?_
  all_goals refine awpOps_cons (op_alloc (o := 1) z25_NodS rfl rfl) ?_
  all_goals refine awpOps_cons (op_alloc (o := 2) z28 rfl rfl) ?_
  all_goals refine awpOps_cons (op_as rfl (Conv.of rfl) rfl) ?_
  all_goals refine awpOps_nil ?_
  refine awp_seq (awp_seq_to (s' := mkSt 51 [(1, .box 0 (IsLens.whole NodS)), (2, .box 1 (IsLens.whole NodS)), (3, .box 2 (IsLens.whole Vote)), (4, .v false), (16, .v (decide (n.epoch = 0) || decide (n.voted = n.epoch)))] [(0, .cell (sN n)), (1, .cell NodS.zero), (2, .cell Vote.zero)]) ?_ ?_)
  · all_goals refine awp_region (id := 1) ?_
    all_goals refine awpOps_cons (op_fab f25_1_NodS rfl rfl) ?_
    all_goals refine awpOps_cons (op_ld ty3 rfl rfl rfl) ?_
    all_goals refine awpOps_cons (op_eql rfl rfl rfl) ?_
    all_goals refine awpOps_cons (op_mv rfl (Conv.of rfl) rfl) ?_
    all_goals refine g_split (t := 10) rfl (fun h => ?_) (fun h => ?_)
    all_goals first | refine awpOps_cons (g_off rfl rfl rfl rfl rfl) ?_ | refine awpOps_cons (g_on rfl rfl rfl (op_fab f25_2_NodS rfl rfl)) ?_
    all_goals first | refine awpOps_cons (g_off rfl rfl rfl rfl rfl) ?_ | refine awpOps_cons (g_on rfl rfl rfl (op_ld ty3 rfl rfl rfl)) ?_
    all_goals first | refine awpOps_cons (g_off rfl rfl rfl rfl rfl) ?_ | refine awpOps_cons (g_on rfl rfl rfl (op_fab f25_1_NodS rfl rfl)) ?_
    all_goals first | refine awpOps_cons (g_off rfl rfl rfl rfl rfl) ?_ | refine awpOps_cons (g_on rfl rfl rfl (op_ld ty3 rfl rfl rfl)) ?_
    all_goals first | refine awpOps_cons (g_off rfl rfl rfl rfl rfl) ?_ | refine awpOps_cons (g_on rfl rfl rfl (op_eql rfl rfl rfl)) ?_
    all_goals refine awpOps_cons (op_pick rfl rfl rfl rfl) ?_
    all_goals refine awpOps_nil ?_
    all_goals exact Le.mk rfl (tlb rfl rfl rfl (tlb rfl rfl rfl (tlb rfl rfl rfl (tle rfl (rfl) rfl (tle rfl (by (clear htip; simp_all [sN]; try (rw [Bool.eq_iff_iff]; simp))) rfl tln))))) (olk rfl (by exact obOkN) (olk rfl (by exact obOkN) (olk rfl (by exact obOk_cell) oln))) noS
  refine awp_cond rfl (fun h => ?_) (fun h => ?_)
  · all_goals refine awp_seq (awp_region (id := 2) ?_)
    all_goals refine awpOps_cons (op_ldm ty25_NodS rfl rfl rfl) ?_
    all_goals refine awpOps_cons (op_build (.nil _) z28 rfl pl28 rfl) ?_
    all_goals refine awpOps_cons (op_stm ty25_NodS rfl rfl rfl) ?_
    all_goals refine awpOps_cons (op_st ty28 rfl rfl (Conv.of rfl) rfl) ?_
    all_goals refine awpOps_cons (op_as rfl (Conv.of rfl) rfl) ?_
    all_goals refine awpOps_nil ?_
    refine awp_ret ?_
    repeat first | refine rt_seq ?_ | refine rt_block ?_
    refine ⟨_, _, resNM (ol := []) (.cell ty25_NodS rfl rfl (.keep (.rc ty28 rfl rfl) (.keep (.v rfl (Conv.of rfl)) (.nil _)))) rfl (fun o ho => absurd (show o ∈ ([] : List Nat) from ho) (by simp)) oln noS, ?_, rfl⟩
    rw [tryAllS, h, if_pos rfl]; rfl
  · have hres : tryAllS n = tryS n (tipOfS n.seen).length n.seen := by rw [tryAllS, h]; rfl
    refine awp_skip ?_
    all_goals refine awp_seq (awp_region (id := 3) ?_)
    all_goals refine awpOps_cons (op_fab f25_3_NodS rfl rfl) ?_
    all_goals refine awpOps_cons (op_ldl ty23_OListVote rfl rfl rfl) ?_
    all_goals refine awpOps_cons (op_call fb37 (.cons rfl (Conv.of rfl) (.nil _)) (l11Tip_ct _ hn.l hn.v) (argOk rfl rfl argOk0) rfl rfl) ?_
    all_goals refine awpOps_cons (op_len sl26 rfl rfl) ?_
    all_goals refine awpOps_cons (op_as rfl (Conv.of rfl) rfl) ?_
    all_goals refine awpOps_nil ?_
    all_goals refine awp_seq (awp_seq (awp_region (id := 4) ?_))
    all_goals refine awpOps_cons (op_as rfl (Conv.of rfl) rfl) ?_
    all_goals refine awpOps_nil ?_
    refine awp_block ?_
    refine awp_loop' (fun n_ s => ∃ (k : Nat), ∃ (hk : n_ + k = n.seen.length), ∃ (hall : tryS n (tipOfS n.seen).length (n.seen.drop k) = tryAllS n), s = mkSt 51 [(1, .box 0 (IsLens.whole NodS)), (2, .box 1 (IsLens.whole NodS)), (3, .box 2 (IsLens.whole Vote)), (5, .v ((tipOfS n.seen).length : Int)), (6, .v (k : Int))] [(0, .cell (sN n)), (1, .cell NodS.zero), (2, .cell Vote.zero)]) (n.seen.length) ⟨0, by omega, by rw [hres]; rfl, rfl⟩ (Le.mk rfl (tlb rfl rfl rfl (tlb rfl rfl rfl (tlb rfl rfl rfl (tle rfl (rfl) rfl (tle rfl (rfl) rfl tln))))) (olk rfl (by exact obOkN) (olk rfl (by exact obOkN) (olk rfl (by exact obOk_cell) oln))) noS) ?_
    rintro n_ s ⟨k, hk, hall, rfl⟩
    all_goals refine awp_seq (awp_seq (awp_region (id := 5) ?_))
    all_goals refine awpOps_cons (op_mv rfl (Conv.of rfl) rfl) ?_
    all_goals refine awpOps_cons (op_fab f25_3_NodS rfl rfl) ?_
    all_goals refine awpOps_cons (op_ldl ty23_OListVote rfl rfl rfl) ?_
    all_goals refine awpOps_cons (op_len sl23 rfl rfl) ?_
    all_goals refine awpOps_cons (op_lss rfl rfl rfl) ?_
    all_goals refine awpOps_nil ?_
    refine awp_cond rfl (fun h2 => ?_) (fun h2 => ?_)
    · have hlt : k < n.seen.length := by simpa [sN] using h2
      have hx : n.seen[k]? = some n.seen[k] := List.getElem?_eq_getElem hlt
      have hx' : (sN n).seen.l[(k : Int).toNat]? = some n.seen[k] := hx
      have huo := hn.ok _ (List.getElem_mem hlt)
      have hup := voteOk_pos huo
      have hstep := tryS_drop n (tipOfS n.seen).length hx
      refine awp_skip ?_
      refine awp_seq (awp_block ?_)
      all_goals refine awp_seq (dr_start (id := 7) ?_)
      all_goals refine dr_cons (op_ldd ty25_NodS rfl rfl rfl) ?_
      all_goals refine dr_cons (op_fab f25_3_NodS rfl rfl) ?_
      all_goals refine dr_cons (op_ldl ty23_OListVote rfl rfl rfl) ?_
      all_goals refine dr_cons (op_mv rfl (Conv.of rfl) rfl) ?_
      all_goals refine dr_cons (op_ix sl23 rfl rfl rfl (by omega) hx') ?_
      all_goals refine dr_cons (op_ldr ty28 rfl rfl) ?_
      all_goals refine dr_cons (op_mv rfl (Conv.of rfl) rfl) ?_
      all_goals refine dr_cons (op_call fb99 (.cons rfl (Conv.of rfl) (.cons rfl (Conv.of rfl) (.cons rfl (Conv.of rfl) (.nil _)))) (l12Fits_ct n n.seen[k] (tipOfS n.seen).length hup he) (argOk rfl rfl (argOk rfl rfl (argOk rfl rfl argOk0))) rfl rfl) ?_
      all_goals refine dr_nil mixed rfl ?_
      refine awp_cond rfl (fun h3 => ?_) (fun h3 => ?_)
      · refine awp_seq ?_
        refine awp_park (s := 37) (o := 0) (tb := 1) rfl rfl rfl (fun hv => ?_)
        refine dg_start 8 ?_
        all_goals refine dg_cons (op_ld ty25_NodH rfl rfl rfl) ?_
        all_goals refine dg_cons (op_fab f25_3_NodH rfl rfl) ?_
        all_goals refine dg_cons (op_ld ty23_HListVote rfl rfl rfl) ?_
        all_goals refine dg_cons (op_mv rfl (Conv.of rfl) rfl) ?_
        all_goals refine dg_cons (op_ix sl23 rfl rfl rfl (by omega) hx') ?_
        all_goals refine dg_cons (op_far f28_1 rfl rfl) ?_
        all_goals refine dg_cons (op_ldr ty26 rfl rfl) ?_
        refine dg_cons (op_callP (r := 37) rfl fb100 rfl rfl (.cons rfl (Conv.of rfl) (.nil _)) (l12Vote_ct n _ hn (voteOk_len huo)) (argOk rfl rfl argOk0) rfl rfl) ?_
        refine dg_bar (fun hv' => _) mixed rfl rfl (parkT (t := 45) (r := 37) rfl rfl rfl) (fun hv' => ?_)
        all_goals refine dg_cons (op_ext rfl rfl rfl) ?_
        all_goals refine dg_cons (op_ext rfl rfl rfl) ?_
        all_goals refine dg_cons (op_ext rfl rfl rfl) ?_
        refine dg_cons (op_stP (s := 46) (r := 37) rfl ty25_NodS rfl rfl rfl rfl) ?_
        all_goals refine dg_cons (op_st ty28 rfl rfl (Conv.of rfl) rfl) ?_
        all_goals refine dg_cons (op_as rfl (Conv.of rfl) rfl) ?_
        refine dg_nil rfl ?_
        refine awp_ret ?_
        repeat first | refine rt_seq ?_ | refine rt_block ?_
        refine ⟨_, _, resNM (ol := []) (.cell ty25_NodS rfl rfl (.keep (.rc ty28 rfl rfl) (.keep (.v rfl (Conv.of rfl)) (.nil _)))) rfl (fun o ho => absurd (show o ∈ ([] : List Nat) from ho) (by simp)) oln noS, ?_, rfl⟩
        rw [← hall, hstep, if_pos h3]; rfl
      · refine awp_skip ?_
        all_goals refine awp_region (id := 6) ?_
        all_goals refine awpOps_cons (op_mv rfl (Conv.of rfl) rfl) ?_
        all_goals refine awpOps_cons (op_add rfl rfl rfl (by omega)) ?_
        all_goals refine awpOps_cons (op_as rfl (Conv.of rfl) rfl) ?_
        all_goals refine awpOps_nil ?_
        repeat first | refine nx_seq ?_ | refine nx_block ?_
        exact ⟨n_ - 1, _, by omega, ⟨k + 1, by omega, by rw [← hall, hstep, if_neg (by rw [h3]; decide)], rfl⟩, Le.mk rfl (tlb rfl rfl rfl (tlb rfl rfl rfl (tlb rfl rfl rfl (tle rfl (rfl) rfl (tle rfl (rfl) rfl tln))))) (olk rfl (by exact obOkN) (olk rfl (by exact obOkN) (olk rfl (by exact obOk_cell) oln))) noS⟩
    · refine awp_exit ?_
      repeat refine ex_seq ?_
      refine ex_block ?_
      have hk : n.seen.length ≤ k := by simpa [sN] using h2
      all_goals refine awp_seq (awp_region (id := 9) ?_)
      all_goals refine awpOps_cons (op_ldm ty25_NodS rfl rfl rfl) ?_
      all_goals refine awpOps_cons (op_build (.nil _) z28 rfl pl28 rfl) ?_
      all_goals refine awpOps_cons (op_stm ty25_NodS rfl rfl rfl) ?_
      all_goals refine awpOps_cons (op_st ty28 rfl rfl (Conv.of rfl) rfl) ?_
      all_goals refine awpOps_cons (op_as rfl (Conv.of rfl) rfl) ?_
      all_goals refine awpOps_nil ?_
      refine awp_ret ?_
      repeat first | refine rt_seq ?_ | refine rt_block ?_
      refine ⟨_, _, resNM (ol := []) (.cell ty25_NodS rfl rfl (.keep (.rc ty28 rfl rfl) (.keep (.v rfl (Conv.of rfl)) (.nil _)))) rfl (fun o ho => absurd (show o ∈ ([] : List Nat) from ho) (by simp)) oln noS, ?_, rfl⟩
      rw [← hall, drop_end hk]; rfl
theorem l12Hear_ct (n : Nod) (v : Vote) (hn : Gd n.seen) (he : 0 ≤ n.epoch ∧ n.epoch ≤ 30) (hv : v.chain.length ≤ 1000000) : CtP Try.prog 40 [.v (sN n), .v v] (res3S (hearS n v)) := by
  refine Ct.intro Try.func40 rfl rfl ?_
  all_goals refine awp_seq (awp_region (id := 0) ?_)
  all_goals refine awpOps_cons (op_boxm (o := 0) ty25_NodS rfl rfl rfl rfl) ?_
  all_goals refine awpOps_cons (op_box (o := 1) ty28 rfl (Conv.of rfl) rfl rfl) ?_
  all_goals refine awpOps_cons (op_alloc (o := 2) z25_NodS rfl rfl) ?_
  all_goals refine awpOps_cons (op_alloc (o := 3) z28 rfl rfl) ?_
  all_goals refine awpOps_cons (op_as rfl (Conv.of rfl) rfl) ?_
  all_goals refine awpOps_nil ?_
  refine awp_seq (awp_seq_to (s' := mkSt 41 [(2, .box 0 (IsLens.whole NodS)), (3, .box 1 (IsLens.whole Vote)), (4, .box 2 (IsLens.whole NodS)), (5, .box 3 (IsLens.whole Vote)), (6, .v false), (24, .v (!(voteOk v && !decide (v.by_ = n.id) && decide (n.seen.length < 80))))] [(0, .cell (sN n)), (1, .cell v), (2, .cell NodS.zero), (3, .cell Vote.zero)]) ?_ ?_)
  · all_goals refine awp_region (id := 1) ?_
    all_goals refine awpOps_cons (op_ld ty28 rfl rfl rfl) ?_
    all_goals refine awpOps_cons (op_call fb66 (.cons rfl (Conv.of rfl) (.nil _)) (l3Vote_ct _) (argOk rfl rfl argOk0) rfl rfl) ?_
    all_goals refine awpOps_cons (op_not rfl rfl) ?_
    all_goals refine awpOps_cons (op_mv rfl (Conv.of rfl) rfl) ?_
    all_goals refine g_split (t := 12) rfl (fun h => ?_) (fun h => ?_)
    all_goals first | refine awpOps_cons (g_off rfl rfl rfl rfl rfl) ?_ | refine awpOps_cons (g_on rfl rfl rfl (op_fab f28_0 rfl rfl)) ?_
    all_goals first | refine awpOps_cons (g_off rfl rfl rfl rfl rfl) ?_ | refine awpOps_cons (g_on rfl rfl rfl (op_ld ty3 rfl rfl rfl)) ?_
    all_goals first | refine awpOps_cons (g_off rfl rfl rfl rfl rfl) ?_ | refine awpOps_cons (g_on rfl rfl rfl (op_fab f25_0_NodS rfl rfl)) ?_
    all_goals first | refine awpOps_cons (g_off rfl rfl rfl rfl rfl) ?_ | refine awpOps_cons (g_on rfl rfl rfl (op_ld ty3 rfl rfl rfl)) ?_
    all_goals first | refine awpOps_cons (g_off rfl rfl rfl rfl rfl) ?_ | refine awpOps_cons (g_on rfl rfl rfl (op_eql rfl rfl rfl)) ?_
    all_goals refine awpOps_cons (op_pick rfl rfl rfl rfl) ?_
    all_goals refine awpOps_cons (op_mv rfl (Conv.of rfl) rfl) ?_
    all_goals first | refine g_lit (t := 19) (b := true) rfl ?_ | refine g_split (t := 19) rfl (fun h => ?_) (fun h => ?_)
    all_goals first | refine awpOps_cons (g_off rfl rfl rfl rfl rfl) ?_ | refine awpOps_cons (g_on rfl rfl rfl (op_fab f25_3_NodS rfl rfl)) ?_
    all_goals first | refine awpOps_cons (g_off rfl rfl rfl rfl rfl) ?_ | refine awpOps_cons (g_on rfl rfl rfl (op_ldl ty23_OListVote rfl rfl rfl)) ?_
    all_goals first | refine awpOps_cons (g_off rfl rfl rfl rfl rfl) ?_ | refine awpOps_cons (g_on rfl rfl rfl (op_len sl23 rfl rfl)) ?_
    all_goals first | refine awpOps_cons (g_off rfl rfl rfl rfl rfl) ?_ | refine awpOps_cons (g_on rfl rfl rfl (op_geq rfl rfl rfl)) ?_
    all_goals refine awpOps_cons (op_pick rfl rfl rfl rfl) ?_
    all_goals refine awpOps_nil ?_
    all_goals exact Le.mk rfl (tlb rfl rfl rfl (tlb rfl rfl rfl (tlb rfl rfl rfl (tlb rfl rfl rfl (tle rfl (rfl) rfl (tle rfl (by (simp_all [sN]; try (rw [Bool.eq_iff_iff]; simp; try omega); try (exact ⟨fun hh => by have := of_decide_eq_true hh; omega, fun hh => decide_eq_true (by omega)⟩))) rfl tln)))))) (olk rfl (by exact obOkN) (olk rfl (by exact obOk_cell) (olk rfl (by exact obOkN) (olk rfl (by exact obOk_cell) oln)))) noS
  refine awp_cond rfl (fun h => ?_) (fun h => ?_)
  · all_goals refine awp_seq (awp_region (id := 2) ?_)
    all_goals refine awpOps_cons (op_ldm ty25_NodS rfl rfl rfl) ?_
    all_goals refine awpOps_cons (op_build (.nil _) z28 rfl pl28 rfl) ?_
    all_goals refine awpOps_cons (op_stm ty25_NodS rfl rfl rfl) ?_
    all_goals refine awpOps_cons (op_st ty28 rfl rfl (Conv.of rfl) rfl) ?_
    all_goals refine awpOps_cons (op_as rfl (Conv.of rfl) rfl) ?_
    all_goals refine awpOps_nil ?_
    refine awp_ret ?_
    repeat first | refine rt_seq ?_ | refine rt_block ?_
    refine ⟨_, _, resNM (ol := []) (.cell ty25_NodS rfl rfl (.keep (.rc ty28 rfl rfl) (.keep (.v rfl (Conv.of rfl)) (.nil _)))) rfl (fun o ho => absurd (show o ∈ ([] : List Nat) from ho) (by simp)) oln noS, ?_, rfl⟩
    rw [hearS, not_t h]; rfl
  · have h0 := not_f h
    have h0' := h0
    simp only [Bool.and_eq_true] at h0'
    have hvo : voteOk v = true := h0'.1.1
    have hlen : n.seen.length < 80 := by simpa using h0'.2
    have hgd := seeF_gd hn hvo hlen
    have hep : (seeF n v).epoch = n.epoch := by unfold seeF; split <;> rfl
    refine awp_skip ?_
    all_goals refine awp_seq (awp_region (id := 3) ?_)
    all_goals refine awpOps_cons (op_fab f25_3_NodS rfl rfl) ?_
    all_goals refine awpOps_cons (op_ldm ty23_OListVote rfl rfl rfl) ?_
    all_goals refine awpOps_cons (op_ld ty28 rfl rfl rfl) ?_
    all_goals refine awpOps_cons (op_callM (s := 29) (ol := []) (ol' := []) (pre := []) fb67 (.nil _) rfl (.cons rfl (Conv.of rfl) (.nil _)) (l3Add_ct n.seen v hn.l' hv) ols0 oks0 oks0 rfl argO0 (argOk' rfl rfl argO0) (fun o ho => absurd (show o ∈ ([] : List Nat) from ho) (by simp)) (fun o ho => absurd (show o ∈ ([] : List Nat) from ho) (by simp)) rfl) ?_
    all_goals refine awpOps_cons (op_mvo rfl rfl rfl rfl) ?_
    all_goals refine awpOps_cons (op_extm rfl rfl rfl rfl) ?_
    all_goals refine awpOps_cons (op_ext rfl rfl rfl) ?_
    all_goals refine awpOps_cons (op_asl rfl rfl rfl rfl) ?_
    all_goals refine awpOps_cons (op_as rfl (Conv.of rfl) rfl) ?_
    all_goals refine awpOps_nil ?_
    refine awp_seq_to (s' := mkSt 41 [(2, .box 0 (IsLens.whole NodS)), (4, .box 2 (IsLens.whole NodS)), (5, .box 3 (IsLens.whole Vote))] [(0, .cell (sN (seeF n v))), (2, .cell NodS.zero), (3, .cell Vote.zero)]) ?_ ?_
    · all_goals refine awp_region (id := 4) ?_
      all_goals refine awpOps_cons (op_mvl rfl rfl rfl rfl) ?_
      all_goals refine awpOps_cons (op_fab f25_3_NodS rfl rfl) ?_
      all_goals refine awpOps_cons (op_stm ty23_OListVote rfl rfl rfl) ?_
      all_goals refine awpOps_nil ?_
      all_goals exact Le.mk rfl (tlb rfl rfl rfl (tlb rfl rfl rfl (tlb rfl rfl rfl tln))) (olk (by (by_cases hm : v ∈ n.seen <;> simp [seeF, sN, hm] <;> rfl)) (by exact obOkN) (olk rfl (by exact obOkN) (olk rfl (by exact obOk_cell) oln))) noS
    all_goals refine awp_seq (awp_region (id := 5) ?_)
    all_goals refine awpOps_cons (op_ldm ty25_NodS rfl rfl rfl) ?_
    all_goals refine awpOps_cons (op_callM (s := 36) (ol := []) (ol' := []) (pre := []) fb68 (.nil _) rfl (.nil _) (l12Try_ct (seeF n v) hgd (by rw [hep]; exact he)) ols0 oks0 oks0 rfl argO0 argO0 (fun o ho => absurd (show o ∈ ([] : List Nat) from ho) (by simp)) (fun o ho => absurd (show o ∈ ([] : List Nat) from ho) (by simp)) rfl) ?_
    all_goals refine awpOps_cons (op_extm rfl rfl rfl rfl) ?_
    all_goals refine awpOps_cons (op_ext rfl rfl rfl) ?_
    all_goals refine awpOps_cons (op_ext rfl rfl rfl) ?_
    all_goals refine awpOps_cons (op_stm ty25_NodS rfl rfl rfl) ?_
    all_goals refine awpOps_cons (op_st ty28 rfl rfl (Conv.of rfl) rfl) ?_
    all_goals refine awpOps_cons (op_as rfl (Conv.of rfl) rfl) ?_
    all_goals refine awpOps_nil ?_
    refine awp_ret ?_
    repeat first | refine rt_seq ?_ | refine rt_block ?_
    refine ⟨_, _, resNM (ol := []) (.cell ty25_NodS rfl rfl (.keep (.rc ty28 rfl rfl) (.keep (.v rfl (Conv.of rfl)) (.nil _)))) rfl (fun o ho => absurd (show o ∈ ([] : List Nat) from ho) (by simp)) oln noS, ?_, rfl⟩
    rw [hearS, h0, if_pos rfl]; rfl
end Go.Proofs.Ytmabpmlcclgecaa

/- Streamlet: what is sure, what is final, and that of two finals one begins the other. -/
set_option linter.unusedVariables false
set_option linter.unusedSimpArgs false
namespace Go.Wt

/-! ### Sure chains -/
theorem sureFrom_iff (l : List Vote) (c : List Itm) : ∀ (n k : Nat), sureFrom l c k n = true ↔ ∀ j, k < j → j ≤ k + n → 3 ≤ (voters l (c.take j)).length
  | 0, k => by
    simp only [sureFrom, Nat.add_zero, true_iff]
    intro j h1 h2; omega
  | n + 1, k => by
    simp only [sureFrom, Bool.and_eq_true, decide_eq_true_eq, sureFrom_iff l c n (k + 1)]
    constructor
    · rintro ⟨h1, h2⟩ j h3 h4
      by_cases e : j = k + 1
      · rw [e]; exact h1
      · exact h2 j (by omega) (by omega)
    · intro h
      exact ⟨h (k + 1) (by omega) (by omega), fun j h3 h4 => h j (by omega) (by omega)⟩
theorem sure_iff {l : List Vote} {c : List Itm} : sure l c = true ↔ ∀ j, 0 < j → j ≤ c.length → 3 ≤ (voters l (c.take j)).length := by
  unfold sure; rw [sureFrom_iff]; simp
theorem sure_self {l : List Vote} {c : List Itm} (h : sure l c = true) (h0 : 0 < c.length) : 3 ≤ (voters l c).length := by
  have := sure_iff.1 h c.length h0 (Nat.le_refl _)
  rwa [List.take_length] at this
theorem filter_len_mono {α : Type} {p q : α → Bool} (h : ∀ x, p x = true → q x = true) : ∀ l : List α, (l.filter p).length ≤ (l.filter q).length
  | [] => by simp
  | x :: l => by
    have := filter_len_mono h l
    simp only [List.filter_cons]
    by_cases hp : p x = true
    · simp [hp, h x hp, this]
    · by_cases hq : q x = true
      · simp [hp, hq]; omega
      · simp [hp, hq, this]
theorem voters_mono {l L : List Vote} (h : ∀ v ∈ l, v ∈ L) (c : List Itm) : (voters l c).length ≤ (voters L c).length :=
  filter_len_mono (fun n hn => by simp only [decide_eq_true_eq] at hn ⊢; exact h _ hn) _
theorem sure_mono {l L : List Vote} (h : ∀ v ∈ l, v ∈ L) {c : List Itm} (hc : sure l c = true) : sure L c = true := by
  rw [sure_iff] at hc ⊢
  exact fun j h1 h2 => Nat.le_trans (hc j h1 h2) (voters_mono h _)
theorem voters_mem {l : List Vote} {c : List Itm} {n : Int} : n ∈ voters l c ↔ (n = 1 ∨ n = 2 ∨ n = 3 ∨ n = 4) ∧ Vote.mk n c ∈ l := by
  simp [voters]
theorem voters_some {l : List Vote} {c : List Itm} (h : 0 < (voters l c).length) : ∃ v ∈ l, v.chain = c := by
  obtain ⟨n, hn⟩ := List.exists_mem_of_length_pos h
  exact ⟨_, (voters_mem.1 hn).2, rfl⟩
/-- Of two quorums one who does not lie is in both. -/
theorem quorum {l : List Vote} {c d : List Itm} (bad : Int) (h1 : 3 ≤ (voters l c).length) (h2 : 3 ≤ (voters l d).length) : ∃ n, n ≠ bad ∧ Vote.mk n c ∈ l ∧ Vote.mk n d ∈ l := by
  have key : ∀ n m : Int, n ≠ m → Vote.mk n c ∈ l → Vote.mk n d ∈ l → Vote.mk m c ∈ l → Vote.mk m d ∈ l → ∃ n, n ≠ bad ∧ Vote.mk n c ∈ l ∧ Vote.mk n d ∈ l := by
    intro n m hnm a1 a2 a3 a4
    by_cases e : n = bad
    · exact ⟨m, fun e' => hnm (e.trans e'.symm), a3, a4⟩
    · exact ⟨n, e, a1, a2⟩
  have three : ∀ x : List Itm, 3 ≤ (voters l x).length → (Vote.mk 1 x ∈ l ∧ Vote.mk 2 x ∈ l ∧ Vote.mk 3 x ∈ l) ∨ (Vote.mk 1 x ∈ l ∧ Vote.mk 2 x ∈ l ∧ Vote.mk 4 x ∈ l) ∨ (Vote.mk 1 x ∈ l ∧ Vote.mk 3 x ∈ l ∧ Vote.mk 4 x ∈ l) ∨ (Vote.mk 2 x ∈ l ∧ Vote.mk 3 x ∈ l ∧ Vote.mk 4 x ∈ l) := by
    intro x h
    by_cases a1 : Vote.mk 1 x ∈ l <;> by_cases a2 : Vote.mk 2 x ∈ l <;> by_cases a3 : Vote.mk 3 x ∈ l <;> by_cases a4 : Vote.mk 4 x ∈ l <;> simp [voters, a1, a2, a3, a4] at h ⊢
  rcases three c h1 with ⟨a, b, e⟩ | ⟨a, b, e⟩ | ⟨a, b, e⟩ | ⟨a, b, e⟩ <;> rcases three d h2 with ⟨a', b', e'⟩ | ⟨a', b', e'⟩ | ⟨a', b', e'⟩ | ⟨a', b', e'⟩ <;>
    first
      | exact key 1 2 (by decide) ‹_› ‹_› ‹_› ‹_›
      | exact key 1 3 (by decide) ‹_› ‹_› ‹_› ‹_›
      | exact key 1 4 (by decide) ‹_› ‹_› ‹_› ‹_›
      | exact key 2 3 (by decide) ‹_› ‹_› ‹_› ‹_›
      | exact key 2 4 (by decide) ‹_› ‹_› ‹_› ‹_›
      | exact key 3 4 (by decide) ‹_› ‹_› ‹_› ‹_›
/-- In a quorum is one who does not lie. -/
theorem quorum1 {l : List Vote} {c : List Itm} (bad : Int) (h1 : 3 ≤ (voters l c).length) : ∃ n, n ≠ bad ∧ Vote.mk n c ∈ l := by
  obtain ⟨n, h, h', _⟩ := quorum bad h1 h1
  exact ⟨n, h, h'⟩

/-! ### All sure chains, the longest, the final part -/
theorem allFold_sure {l : List Vote} : ∀ (r : List Vote) (o : List (List Itm)), (∀ c ∈ o, sure l c = true) → ∀ c ∈ r.foldl (allStep l) o, sure l c = true
  | [], o, h, c, hc => h c hc
  | v :: r, o, h, c, hc => by
    refine allFold_sure r _ (fun d hd => ?_) c hc
    unfold allStep at hd
    split at hd
    · rename_i hs
      simp only [Bool.and_eq_true] at hs
      rcases List.mem_append.1 hd with hd | hd
      · exact h d hd
      · simp at hd; rw [hd]; exact hs.2
    · exact h d hd
theorem allOf_sure {l : List Vote} {c : List Itm} (h : c ∈ allOf l) : sure l c = true := allFold_sure l [[]] (fun d hd => by simp at hd; rw [hd]; rfl) c h
theorem allFold_keep {l : List Vote} : ∀ (r : List Vote) (o : List (List Itm)) (c : List Itm), c ∈ o → c ∈ r.foldl (allStep l) o
  | [], o, c, hc => hc
  | v :: r, o, c, hc => by
    refine allFold_keep r _ c ?_
    unfold allStep
    split
    · exact List.mem_append_left _ hc
    · exact hc
theorem allFold_has {l : List Vote} : ∀ (r : List Vote) (o : List (List Itm)) (v : Vote), v ∈ r → sure l v.chain = true → v.chain ∈ r.foldl (allStep l) o
  | u :: r, o, v, hv, hs => by
    rcases List.mem_cons.1 hv with e | hv
    · subst e
      refine allFold_keep r _ _ ?_
      unfold allStep
      by_cases hm : v.chain ∈ o
      · simp [hm]
      · simp [hm, hs]
    · exact allFold_has r _ v hv hs
theorem allOf_nil (l : List Vote) : [] ∈ allOf l := allFold_keep l [[]] [] (by simp)
theorem allOf_has {l : List Vote} {c : List Itm} (h : sure l c = true) : c ∈ allOf l := by
  cases c with
  | nil => exact allOf_nil l
  | cons x c =>
    obtain ⟨v, h1, h2⟩ := voters_some (l := l) (c := x :: c) (by have := sure_self h (by simp); omega)
    rw [← h2] at h ⊢
    exact allFold_has l _ v h1 h
theorem tipFold_max : ∀ (r : List (List Itm)) (o : List Itm), o.length ≤ (r.foldl tipStep o).length ∧ ∀ c ∈ r, c.length ≤ (r.foldl tipStep o).length
  | [], o => ⟨Nat.le_refl _, fun c hc => by cases hc⟩
  | d :: r, o => by
    obtain ⟨h1, h2⟩ := tipFold_max r (tipStep o d)
    have h3 : o.length ≤ (tipStep o d).length ∧ d.length ≤ (tipStep o d).length := by
      unfold tipStep
      split
      · rename_i h; simp only [decide_eq_true_eq] at h; omega
      · rename_i h; simp only [decide_eq_true_eq] at h; omega
    refine ⟨Nat.le_trans h3.1 h1, fun c hc => ?_⟩
    rcases List.mem_cons.1 hc with e | hc
    · rw [e]; exact Nat.le_trans h3.2 h1
    · exact h2 c hc
theorem tip_max {l : List Vote} {c : List Itm} (h : sure l c = true) : c.length ≤ (tipOf l).length := (tipFold_max (allOf l) []).2 c (allOf_has h)
theorem tip_sure (l : List Vote) : sure l (tipOf l) = true := by
  rcases tip_mem (allOf l) [] with e | e
  · unfold tipOf; rw [e]; rfl
  · exact allOf_sure e
theorem tip_mono {l L : List Vote} (h : ∀ v ∈ l, v ∈ L) : (tipOf l).length ≤ (tipOf L).length := tip_max (sure_mono h (tip_sure l))
/-- Three items of epochs one behind the other, the last at place `n`. -/
def Trip (c : List Itm) (n : Nat) : Prop := 2 ≤ n ∧ ∃ x y z, c[n - 2]? = some x ∧ c[n - 1]? = some y ∧ c[n]? = some z ∧ x.epoch + 1 = y.epoch ∧ y.epoch + 1 = z.epoch
theorem trip_iff (c : List Itm) (n : Nat) : (decide (2 < n + 1) && (match c[n - 2]?, c[n - 1]?, c[n]? with | some x, some y, some z => decide (x.epoch + 1 = y.epoch) && decide (y.epoch + 1 = z.epoch) | _, _, _ => false)) = true ↔ Trip c n := by
  unfold Trip
  simp only [Bool.and_eq_true, decide_eq_true_eq]
  constructor
  · rintro ⟨h1, h2⟩
    refine ⟨by omega, ?_⟩
    split at h2
    · rename_i x y z e1 e2 e3
      simp only [Bool.and_eq_true, decide_eq_true_eq] at h2
      exact ⟨x, y, z, e1, e2, e3, h2.1, h2.2⟩
    · cases h2
  · rintro ⟨h1, x, y, z, e1, e2, e3, e4, e5⟩
    refine ⟨by omega, ?_⟩
    simp [e1, e2, e3, e4, e5]
theorem finFrom_spec (c : List Itm) : ∀ n : Nat, (finFrom c n = 0 ∨ Trip c (finFrom c n).toNat) ∧ ∀ m, m < n → Trip c m → (m : Int) ≤ finFrom c n
  | 0 => ⟨.inl rfl, fun m h => by omega⟩
  | n + 1 => by
    obtain ⟨h1, h2⟩ := finFrom_spec c n
    have h3 := finFrom_le c n
    by_cases ht : Trip c n
    · have e : finFrom c (n + 1) = n := by simp only [finFrom]; exact if_pos ((trip_iff c n).2 ht)
      rw [e]
      exact ⟨.inr (by simpa using ht), fun m hm _ => by omega⟩
    · have e : finFrom c (n + 1) = finFrom c n := by simp only [finFrom]; exact if_neg (fun h => ht ((trip_iff c n).1 h))
      rw [e]
      refine ⟨h1, fun m hm hT => ?_⟩
      by_cases e : m = n
      · subst e; exact absurd hT ht
      · exact h2 m (by omega) hT
theorem Trip.lt {c : List Itm} {n : Nat} (h : Trip c n) : n < c.length := by
  obtain ⟨_, x, y, z, _, _, h, _⟩ := h
  exact (List.getElem?_eq_some_iff.1 h).1
theorem finLen_spec (c : List Itm) : finLen c = 0 ∨ Trip c (finLen c).toNat := (finFrom_spec c c.length).1
theorem shownFold_max : ∀ (r : List (List Itm)) (o : List Itm), finLen o ≤ finLen (r.foldl shownStep o) ∧ ∀ c ∈ r, finLen c ≤ finLen (r.foldl shownStep o)
  | [], o => ⟨by simp, fun c hc => by cases hc⟩
  | d :: r, o => by
    obtain ⟨h1, h2⟩ := shownFold_max r (shownStep o d)
    have h3 : finLen o ≤ finLen (shownStep o d) ∧ finLen d ≤ finLen (shownStep o d) := by
      unfold shownStep
      split
      · rename_i h; simp only [decide_eq_true_eq] at h; omega
      · rename_i h; simp only [decide_eq_true_eq] at h; omega
    refine ⟨by simp only [List.foldl_cons]; omega, fun c hc => ?_⟩
    simp only [List.foldl_cons]
    rcases List.mem_cons.1 hc with e | hc
    · rw [e]; omega
    · exact h2 c hc
theorem shown_max {l : List Vote} {c : List Itm} (h : sure l c = true) : finLen c ≤ finLen (shownOf l) := (shownFold_max (allOf l) []).2 c (allOf_has h)
theorem shown_sure (l : List Vote) : sure l (shownOf l) = true := by
  rcases shown_mem (allOf l) [] with e | e
  · unfold shownOf; rw [e]; rfl
  · exact allOf_sure e
theorem final_len (l : List Vote) : ((finalOf l).length : Int) = finLen (shownOf l) := by
  unfold finalOf
  have := finLen_le (shownOf l)
  rw [List.length_take]; omega
theorem lastEp_take {c : List Itm} {k : Nat} {x : Itm} (h : c[k]? = some x) : lastEp (c.take (k + 1)) = x.epoch := by
  unfold lastEp
  rw [take_at h]; simp

/-! ### Of two finals one begins the other -/
/-- Who does not lie votes once in an epoch, and never behind a shorter one. -/
structure Safe (bad : Int) (L : List Vote) : Prop where
  one : ∀ u ∈ L, ∀ v ∈ L, u.by_ = v.by_ → u.by_ ≠ bad → lastEp u.chain = lastEp v.chain → u = v
  long : ∀ u ∈ L, ∀ v ∈ L, u.by_ = v.by_ → u.by_ ≠ bad → lastEp u.chain < lastEp v.chain → u.chain.length ≤ v.chain.length
theorem Safe.epoch {bad : Int} {L : List Vote} (hs : Safe bad L) {c d : List Itm} (h1 : 3 ≤ (voters L c).length) (h2 : 3 ≤ (voters L d).length) (he : lastEp c = lastEp d) : c = d := by
  obtain ⟨n, hn, a, b⟩ := quorum bad h1 h2
  have := hs.one _ a _ b rfl hn he
  injection this
theorem Safe.lens {bad : Int} {L : List Vote} (hs : Safe bad L) {c d : List Itm} (h1 : 3 ≤ (voters L c).length) (h2 : 3 ≤ (voters L d).length) (he : lastEp c < lastEp d) : c.length ≤ d.length := by
  obtain ⟨n, hn, a, b⟩ := quorum bad h1 h2
  exact hs.long _ a _ b rfl hn he
theorem Safe.agree {bad : Int} {L : List Vote} (hs : Safe bad L) {A B : List Itm} {n : Nat} (hA : sure L A = true) (hB : sure L B = true) (tA : Trip A n) (hn : n ≤ B.length) : A.take n = B.take n := by
  have hlt := tA.lt
  obtain ⟨h2, x, y, z, ex, ey, ez, e1, e2⟩ := tA
  have qa : ∀ j, 0 < j → j ≤ A.length → 3 ≤ (voters L (A.take j)).length := sure_iff.1 hA
  have qb : 3 ≤ (voters L (B.take n)).length := sure_iff.1 hB n (by omega) hn
  have l0 : lastEp (A.take (n - 1)) = x.epoch := by have := lastEp_take ex; rwa [show n - 2 + 1 = n - 1 by omega] at this
  have l1 : lastEp (A.take n) = y.epoch := by have := lastEp_take ey; rwa [show n - 1 + 1 = n by omega] at this
  have l2 : lastEp (A.take (n + 1)) = z.epoch := lastEp_take ez
  have s0 : (A.take (n - 1)).length = n - 1 := by rw [List.length_take]; omega
  have s2 : (A.take (n + 1)).length = n + 1 := by rw [List.length_take]; omega
  have sB : (B.take n).length = n := by rw [List.length_take]; omega
  have q0 := qa (n - 1) (by omega) (by omega)
  have q1 := qa n (by omega) (by omega)
  have q2 := qa (n + 1) (by omega) (by omega)
  rcases Int.lt_trichotomy (lastEp (B.take n)) y.epoch with h | h | h
  · rcases Int.lt_trichotomy (lastEp (B.take n)) x.epoch with h' | h' | h'
    · have := hs.lens qb q0 (by omega); omega
    · have := hs.epoch qb q0 (by omega); rw [this] at sB; omega
    · omega
  · exact hs.epoch q1 qb (by omega)
  · rcases Int.lt_trichotomy (lastEp (B.take n)) z.epoch with h' | h' | h'
    · omega
    · have := hs.epoch qb q2 (by omega); rw [this] at sB; omega
    · have := hs.lens q2 qb (by omega); omega
theorem Safe.begin {bad : Int} {L l1 l2 : List Vote} (hs : Safe bad L) (h1 : ∀ v ∈ l1, v ∈ L) (h2 : ∀ v ∈ l2, v ∈ L) (hl : (finalOf l1).length ≤ (finalOf l2).length) : finalOf l1 <+: finalOf l2 := by
  have e1 := final_len l1
  have e2 := final_len l2
  rcases finLen_spec (shownOf l1) with h | h
  · rw [h] at e1
    have : finalOf l1 = [] := List.eq_nil_of_length_eq_zero (by omega)
    rw [this]; exact List.nil_prefix
  · have hb := finLen_le (shownOf l2)
    have := hs.agree (sure_mono h1 (shown_sure l1)) (sure_mono h2 (shown_sure l2)) h (by omega)
    show (shownOf l1).take _ <+: (shownOf l2).take _
    rw [this]
    exact List.take_prefix_take_left (by omega)
theorem Safe.fits {bad : Int} {L l1 l2 : List Vote} (hs : Safe bad L) (h1 : ∀ v ∈ l1, v ∈ L) (h2 : ∀ v ∈ l2, v ∈ L) : finalOf l1 <+: finalOf l2 ∨ finalOf l2 <+: finalOf l1 := by
  rcases Nat.le_total (finalOf l1).length (finalOf l2).length with h | h
  · exact .inl (hs.begin h1 h2 h)
  · exact .inr (hs.begin h2 h1 h)
theorem final_mono_len {l1 l2 : List Vote} (h : ∀ v ∈ l1, v ∈ l2) : (finalOf l1).length ≤ (finalOf l2).length := by
  have e1 := final_len l1
  have e2 := final_len l2
  have := shown_max (sure_mono h (shown_sure l1))
  omega
theorem Safe.more {bad : Int} {L l1 l2 : List Vote} (hs : Safe bad L) (h : ∀ v ∈ l1, v ∈ l2) (h2 : ∀ v ∈ l2, v ∈ L) : finalOf l1 <+: finalOf l2 :=
  hs.begin (fun v hv => h2 v (h v hv)) h2 (final_mono_len h)
end Go.Wt

/- What the reference computes is what the program computes; what stays so of a world. -/
set_option linter.unusedVariables false
set_option linter.unusedSimpArgs false
namespace Go.Wt

theorem votesOkFrom_iff : ∀ (l pre : List Vote), votesOkFrom pre l = true ↔ (∀ v ∈ l, voteOk v = true) ∧ l.Nodup ∧ ∀ v ∈ l, v ∉ pre
  | [], pre => by simp [votesOkFrom]
  | u :: r, pre => by
    simp only [votesOkFrom, Bool.and_eq_true, votesOkFrom_iff r (pre ++ [u]), Bool.not_eq_true', decide_eq_false_iff_not]
    constructor
    · rintro ⟨⟨h1, h2⟩, h3, h4, h5⟩
      refine ⟨fun v hv => ?_, List.nodup_cons.2 ⟨fun hm => ?_, h4⟩, fun v hv => ?_⟩
      · rcases List.mem_cons.1 hv with rfl | hv
        · exact h1
        · exact h3 v hv
      · exact h5 u hm (by simp)
      · rcases List.mem_cons.1 hv with rfl | hv
        · exact h2
        · exact fun hm => h5 v hv (by simp [hm])
    · rintro ⟨h1, h2, h3⟩
      rw [List.nodup_cons] at h2
      refine ⟨⟨h1 u (by simp), h3 u (by simp)⟩, fun v hv => h1 v (by simp [hv]), h2.2, fun v hv hm => ?_⟩
      rcases List.mem_append.1 hm with hm | hm
      · exact h3 v (by simp [hv]) hm
      · simp at hm; subst hm; exact h2.1 hv
theorem votesOk_iff {l : List Vote} : votesOk l = true ↔ (∀ v ∈ l, voteOk v = true) ∧ l.Nodup := by
  unfold votesOk; rw [votesOkFrom_iff]; simp
theorem votesOk_snoc {l : List Vote} {v : Vote} (h : votesOk l = true) (hv : voteOk v = true) (hn : v ∉ l) : votesOk (l ++ [v]) = true := by
  rw [votesOk_iff] at h ⊢
  refine ⟨fun u hu => ?_, ?_⟩
  · rcases List.mem_append.1 hu with hu | hu
    · exact h.1 u hu
    · simp at hu; rw [hu]; exact hv
  · rw [List.nodup_append]
    refine ⟨h.2, by simp, fun a ha b hb => ?_⟩
    simp at hb
    rintro rfl
    exact hn (hb ▸ ha)
theorem voteOk_by {v : Vote} (h : voteOk v = true) : v.by_ = 1 ∨ v.by_ = 2 ∨ v.by_ = 3 ∨ v.by_ = 4 := by
  simp only [voteOk, Bool.and_eq_true, within, decide_eq_true_eq] at h
  omega
/-! ### Votes and voters -/
theorem filter_or1 {p : Int → Bool} {m : Int} (hm : m = 1 ∨ m = 2 ∨ m = 3 ∨ m = 4) (hp : p m = false) : (([1, 2, 3, 4] : List Int).filter fun n => decide (n = m) || p n).length = (([1, 2, 3, 4] : List Int).filter p).length + 1 := by
  rcases hm with rfl | rfl | rfl | rfl <;> cases h1 : p 1 <;> cases h2 : p 2 <;> cases h3 : p 3 <;> cases h4 : p 4 <;> simp_all [List.filter_cons]
theorem manyFrom_add (c : List Itm) : ∀ (l : List Vote) (n : Int), manyFrom c l n = n + manyFrom c l 0
  | [], n => by simp [manyFrom]
  | v :: r, n => by
    simp only [manyFrom]
    rw [manyFrom_add c r, manyFrom_add c r (if decide (v.chain = c) = true then 0 + 1 else 0)]
    split <;> omega
theorem many_eq (c : List Itm) : ∀ {l : List Vote}, votesOk l = true → many l c = (voters l c).length
  | [], _ => by simp [many, manyFrom, voters]
  | v :: r, h => by
    rw [votesOk_iff] at h
    have hnd := List.nodup_cons.1 h.2
    have hr : votesOk r = true := votesOk_iff.2 ⟨fun u hu => h.1 u (by simp [hu]), hnd.2⟩
    have ih := many_eq c hr
    unfold many at ih ⊢
    simp only [manyFrom]
    rw [manyFrom_add, ih]
    by_cases e : v.chain = c
    · have hm := voteOk_by (h.1 v (by simp))
      have := filter_or1 (p := fun n => decide (Vote.mk n c ∈ r)) hm (by
        simp only [decide_eq_false_iff_not]
        intro hh; apply hnd.1
        have : Vote.mk v.by_ c = v := by rw [← e]
        rwa [this] at hh)
      have e2 : voters (v :: r) c = ([1, 2, 3, 4] : List Int).filter fun n => decide (n = v.by_) || decide (Vote.mk n c ∈ r) := by
        unfold voters
        congr 1
        funext n
        rw [Bool.eq_iff_iff]
        simp only [List.mem_cons, decide_eq_true_eq, Bool.or_eq_true]
        constructor
        · rintro (h | h)
          · left; rw [← h]
          · exact .inr h
        · rintro (h | h)
          · left; rw [h, ← e]
          · exact .inr h
      rw [e2, this]
      simp only [e, decide_true, if_true]
      unfold voters
      omega
    · have e2 : voters (v :: r) c = voters r c := by
        unfold voters
        congr 1
        funext n
        rw [Bool.eq_iff_iff]
        simp only [List.mem_cons, decide_eq_true_eq]
        constructor
        · rintro (h | h)
          · exfalso; apply e; rw [← h]
          · exact h
        · exact .inr
      rw [e2]
      simp [e]
theorem sureSFrom_eq {l : List Vote} (h : votesOk l = true) (c : List Itm) : ∀ n k, sureSFrom l c k n = sureFrom l c k n
  | 0, _ => rfl
  | n + 1, k => by
    simp only [sureSFrom, sureFrom, sureSFrom_eq h c n, many_eq _ h]
    congr 1
    rw [decide_eq_decide]; omega
theorem sureS_eq {l : List Vote} (h : votesOk l = true) (c : List Itm) : sureS l c = sure l c := sureSFrom_eq h c _ _
theorem allStepS_eq {l : List Vote} (h : votesOk l = true) : allStepS l = allStep l := by
  funext o v; unfold allStepS allStep; rw [sureS_eq h]
theorem allOfS_eq {l : List Vote} (h : votesOk l = true) : allOfS l = allOf l := by unfold allOfS allOf; rw [allStepS_eq h]
theorem tipOfS_eq {l : List Vote} (h : votesOk l = true) : tipOfS l = tipOf l := by unfold tipOfS tipOf; rw [allOfS_eq h]
theorem lead_eq {e : Int} (h : 1 ≤ e ∧ e ≤ 30) : leadS e = leader e := by
  unfold leader leadS
  rw [if_pos (by simp [within]; omega)]
theorem proposeS_eq {n : Nod} (p : Pay) (hs : votesOk n.seen = true) (he : 0 ≤ n.epoch ∧ n.epoch ≤ 30) : proposeS n p = proposeF n p := by
  unfold proposeS proposeF
  rw [tipOfS_eq hs]
  by_cases h0 : n.epoch = 0
  · simp [h0, mayN]
  · rw [lead_eq (by omega)]
    have hp : 0 < n.epoch := by omega
    by_cases h1 : n.voted = n.epoch
    · simp [h1, mayN]
    · by_cases h2 : leader n.epoch = n.id
      · simp [h0, h1, h2, mayN, hp]
      · simp [h0, h1, h2, mayN]
theorem fitsS_eq {n : Nod} {u : Vote} (hs : votesOk n.seen = true) (he : 1 ≤ n.epoch ∧ n.epoch ≤ 30) : fitsS n u (tipOf n.seen).length = fits n u := by
  unfold fitsS fits
  rw [lead_eq he, sureS_eq hs]
theorem tryS_eq {n : Nod} (hs : votesOk n.seen = true) (he : 1 ≤ n.epoch ∧ n.epoch ≤ 30) : ∀ l : List Vote, tryS n (tipOf n.seen).length l = tryF n l
  | [] => rfl
  | u :: r => by simp only [tryS, tryF, fitsS_eq hs he, tryS_eq hs he r]
theorem tryAllS_eq {n : Nod} (hs : votesOk n.seen = true) (he : 0 ≤ n.epoch ∧ n.epoch ≤ 30) : tryAllS n = if mayN n then tryF n n.seen else (n, .zero, false) := by
  unfold tryAllS
  rw [tipOfS_eq hs]
  by_cases h0 : n.epoch = 0
  · simp [h0, mayN]
  · have hp : 0 < n.epoch := by omega
    by_cases h1 : n.voted = n.epoch
    · simp [h1, mayN]
    · simp [h0, h1, mayN, hp, tryS_eq hs (show 1 ≤ n.epoch ∧ n.epoch ≤ 30 by omega)]
theorem seeF_ok {n : Nod} {v : Vote} (hs : votesOk n.seen = true) (hv : voteOk v = true) : votesOk (seeF n v).seen = true := by
  unfold seeF
  split
  · exact hs
  · rename_i h; exact votesOk_snoc hs hv (by simpa using h)
theorem seeF_epoch (n : Nod) (v : Vote) : (seeF n v).epoch = n.epoch ∧ (seeF n v).id = n.id ∧ (seeF n v).voted = n.voted := by unfold seeF; split <;> exact ⟨rfl, rfl, rfl⟩
theorem hearS_eq {n : Nod} {v : Vote} (hs : votesOk n.seen = true) (he : 0 ≤ n.epoch ∧ n.epoch ≤ 30) : hearS n v = hearF n v := by
  unfold hearS hearF
  split
  · rename_i h
    simp only [Bool.and_eq_true] at h
    exact tryAllS_eq (seeF_ok hs h.1.1) (by rw [(seeF_epoch n v).1]; exact he)
  · rfl
/-! ### Nodes stay in form -/
theorem nodeOk_iff {n : Nod} : nodeOk n = true ↔ (within n.id 1 4 = true ∧ (0 ≤ n.epoch ∧ n.epoch ≤ 30) ∧ (0 ≤ n.voted ∧ n.voted ≤ n.epoch) ∧ n.seen.length ≤ 80 ∧ votesOk n.seen = true) ∧ ∀ v ∈ n.seen, v.by_ = n.id → lastEp v.chain ≤ n.voted := by
  unfold nodeOk nodeOk0
  simp only [Bool.and_eq_true, Bool.not_eq_true', List.any_eq_false, late, decide_eq_true_eq, not_and, and_assoc]
  simp only [within, Bool.and_eq_true, decide_eq_true_eq, and_assoc]
  constructor
  · rintro ⟨a, b, c, d, e, f, g, h, k⟩
    exact ⟨a, b, c, d, e, f, g, h, fun v hv hb => by have := k v hv hb; omega⟩
  · rintro ⟨a, b, c, d, e, f, g, h, k⟩
    exact ⟨a, b, c, d, e, f, g, h, fun v hv hb => by have := k v hv hb; omega⟩
theorem lastEp_snoc (c : List Itm) (x : Itm) : lastEp (c ++ [x]) = x.epoch := by simp [lastEp]
theorem voteF_ok {n : Nod} {c : List Itm} (h : nodeOk n = true) (h0 : 0 < c.length) (hc : chainOk c = true) (hm : mayN n = true) (hl : lastEp c = n.epoch) : nodeOk (voteF n c).1 = true ∧ ((voteF n c).2.2 = true → voteOk (voteF n c).2.1 = true) := by
  have h' := nodeOk_iff.1 h
  obtain ⟨⟨h1, h2, h3, h4, h5⟩, h6⟩ := h'
  have hv : voteOk ⟨n.id, c⟩ = true := by simp [voteOk, h1, h0, hc]
  unfold voteF
  split
  · exact ⟨h, fun h => by cases h⟩
  · rename_i hlen
    have hlen' : n.seen.length < 80 := by simpa using hlen
    simp only [mayN, Bool.and_eq_true, decide_eq_true_eq, bne_iff_ne] at hm
    refine ⟨nodeOk_iff.2 ⟨⟨h1, h2, ⟨h2.1, Int.le_refl _⟩, by simp; omega, votesOk_snoc h5 hv fun hmem => ?_⟩, fun v hv' hb => ?_⟩, fun _ => hv⟩
    · have := h6 _ hmem rfl
      simp only at this
      have := hm.2
      omega
    · rcases List.mem_append.1 hv' with hv' | hv'
      · have := h6 v hv' hb
        show lastEp v.chain ≤ n.epoch
        omega
      · simp at hv'; rw [hv']; show lastEp c ≤ n.epoch; omega
theorem proposeF_ok {n : Nod} (p : Pay) (h : nodeOk n = true) : nodeOk (proposeF n p).1 = true ∧ ((proposeF n p).2.2 = true → voteOk (proposeF n p).2.1 = true) := by
  unfold proposeF
  split
  · rename_i hh
    simp only [Bool.and_eq_true] at hh
    exact voteF_ok h (by simp) hh.2 hh.1.1 (lastEp_snoc _ _)
  · exact ⟨h, fun h => by cases h⟩
theorem tryF_ok {n : Nod} (h : nodeOk n = true) (hm : mayN n = true) : ∀ {l : List Vote}, (∀ v ∈ l, voteOk v = true) → nodeOk (tryF n l).1 = true ∧ ((tryF n l).2.2 = true → voteOk (tryF n l).2.1 = true)
  | [], _ => ⟨h, fun h => by cases h⟩
  | u :: r, hl => by
    simp only [tryF]
    split
    · rename_i hf
      have hu := hl u (by simp)
      simp only [fits, Bool.and_eq_true, decide_eq_true_eq] at hf
      exact voteF_ok h (voteOk_pos hu) (voteOk_chain hu) hm hf.1.1.2
    · exact tryF_ok h hm (fun v hv => hl v (by simp [hv]))
theorem seeF_nok {n : Nod} {v : Vote} (h : nodeOk n = true) (hv : voteOk v = true) (hb : v.by_ ≠ n.id) (hl : n.seen.length < 80) : nodeOk (seeF n v) = true := by
  have h' := nodeOk_iff.1 h
  obtain ⟨⟨h1, h2, h3, h4, h5⟩, h6⟩ := h'
  have hs := seeF_ok h5 hv
  unfold seeF at hs ⊢
  split
  · exact h
  · rename_i hm
    rw [if_neg hm] at hs
    refine nodeOk_iff.2 ⟨⟨h1, h2, h3, by simp; omega, hs⟩, fun u hu hub => ?_⟩
    rcases List.mem_append.1 hu with hu | hu
    · exact h6 u hu hub
    · simp at hu; subst hu; exact absurd hub hb
theorem hearF_ok {n : Nod} (v : Vote) (h : nodeOk n = true) : nodeOk (hearF n v).1 = true ∧ ((hearF n v).2.2 = true → voteOk (hearF n v).2.1 = true) := by
  unfold hearF
  split
  · rename_i hh
    simp only [Bool.and_eq_true, Bool.not_eq_true', decide_eq_false_iff_not, decide_eq_true_eq] at hh
    have hs := seeF_nok h hh.1.1 hh.1.2 hh.2
    split
    · rename_i hm; exact tryF_ok hs hm (votesOk_mem (nodeOk_iff.1 hs).1.2.2.2.2)
    · exact ⟨hs, fun h => by cases h⟩
  · exact ⟨h, fun h => by cases h⟩
theorem enterF_ok {n : Nod} {e : Int} (h : nodeOk n = true) : nodeOk (enterF n e) = true := by
  unfold enterF
  split
  · rename_i hh
    obtain ⟨⟨h1, h2, h3, h4, h5⟩, h6⟩ := nodeOk_iff.1 h
    simp only [within, Bool.and_eq_true, decide_eq_true_eq] at hh
    exact nodeOk_iff.2 ⟨⟨h1, ⟨by show 0 ≤ e; omega, hh.2⟩, ⟨h3.1, by show n.voted ≤ e; omega⟩, h4, h5⟩, h6⟩
  · exact h
/-! ### Worlds stay in form -/
structure FineX (w : Wrld) : Prop where
  ep : 0 ≤ w.epoch ∧ w.epoch ≤ 30
  four : w.nodes.length = 4
  ll : w.log.length ≤ 80
  log : votesOk w.log = true
  nodes : ∀ n ∈ w.nodes, nodeOk n = true
theorem FineX.fine {w : Wrld} (h : FineX w) : Fine w := Fine.mk' h.ep h.four h.ll (votesOk_mem h.log) fun n hn => by
  obtain ⟨⟨h1, h2, h3, h4, h5⟩, h6⟩ := nodeOk_iff.1 (h.nodes n hn)
  exact ⟨h2, h1, h4, votesOk_mem h5⟩
theorem sendF_ok {w : Wrld} {v : Vote} (h : FineX w) (hv : voteOk v = true) : FineX (sendF w v) := by
  unfold sendF
  split
  · rename_i hh
    simp only [Bool.and_eq_true, Bool.not_eq_true', decide_eq_false_iff_not, decide_eq_true_eq] at hh
    exact ⟨h.ep, h.four, by simp; omega, votesOk_snoc h.log hv hh.1, h.nodes⟩
  · exact h
theorem setF_ok {w : Wrld} {k : Nat} {n : Nod} (h : FineX w) (hn : nodeOk n = true) : FineX { w with nodes := w.nodes.set k n } :=
  ⟨h.ep, by simp [h.four], h.ll, h.log, fun m hm => by
    rcases List.mem_or_eq_of_mem_set hm with hm | hm
    · exact h.nodes m hm
    · rw [hm]; exact hn⟩
theorem putF_ok {w : Wrld} {k : Nat} {x : Nod × Vote × Bool} (h : FineX w) (h1 : nodeOk x.1 = true) (h2 : x.2.2 = true → voteOk x.2.1 = true) : FineX (putF w k x) := by
  have h3 := setF_ok (k := k) h h1
  unfold putF
  split
  · rename_i hh; exact sendF_ok h3 (h2 hh)
  · exact h3
theorem tickF_ok {w : Wrld} (h : FineX w) : FineX (tickF w) := by
  have := h.ep
  refine ⟨⟨by show 0 ≤ min (w.epoch + 1) 30; omega, by show min (w.epoch + 1) 30 ≤ 30; omega⟩, by simp [tickF, h.four], h.ll, h.log, fun n hn => ?_⟩
  obtain ⟨m, hm, rfl⟩ := List.mem_map.1 hn
  exact enterF_ok (h.nodes m hm)
theorem wproposeF_ok {w : Wrld} {id : Int} {p : Pay} (h : FineX w) : FineX (wproposeF w id p) := by
  unfold wproposeF
  split
  · split
    · rename_i n hn
      have := proposeF_ok p (h.nodes n (List.mem_of_getElem? hn))
      exact putF_ok h this.1 this.2
    · exact h
  · exact h
theorem wbringF_ok {w : Wrld} {a id : Int} (h : FineX w) : FineX (wbringF w a id) := by
  unfold wbringF
  split
  · split
    · rename_i n v hn hv
      have := hearF_ok v (h.nodes n (List.mem_of_getElem? hn))
      exact putF_ok h this.1 this.2
    · exact h
  · exact h
theorem doF_ok {w : Wrld} (e : Evt) (h : FineX w) : FineX (doF w e) := by
  unfold doF
  split
  · exact tickF_ok h
  · split
    · exact wproposeF_ok h
    · split
      · exact wbringF_ok h
      · split
        · split
          · rename_i hh
            simp only [Bool.and_eq_true] at hh
            exact sendF_ok h hh.1
          · exact h
        · exact h
theorem newW_ok (bad : Int) : FineX (newW bad) := ⟨by simp [newW], rfl, by simp [newW], rfl, by
  intro n hn
  simp [newW, newN] at hn
  rcases hn with rfl | rfl | rfl | rfl <;> rfl⟩
end Go.Wt

/- The reference: a node of a world proposes, or hears. -/
set_option linter.unusedVariables false
set_option linter.unusedSimpArgs false
namespace Go.Proofs.Ytmabpmlcclgecaa
open Go Go.Wt
theorem l12Propose_w (n : Nod) (p : Pay) (h : nodeOk n = true) : CtP Try.prog 128 [.v (sN n), .v p] (res3S (proposeF n p)) := by
  obtain ⟨⟨h1, h2, h3, h4, h5⟩, h6⟩ := nodeOk_iff.1 h
  rw [← proposeS_eq p h5 h2]
  exact l12Propose_ct n p ⟨by omega, votesOk_mem h5⟩ h2
theorem l12Hear_w (n : Nod) (v : Vote) (h : nodeOk n = true) (hv : v.chain.length ≤ 1000000) : CtP Try.prog 40 [.v (sN n), .v v] (res3S (hearF n v)) := by
  obtain ⟨⟨h1, h2, h3, h4, h5⟩, h6⟩ := nodeOk_iff.1 h
  rw [← hearS_eq h5 h2]
  exact l12Hear_ct n v ⟨by omega, votesOk_mem h5⟩ h2 hv
abbrev so (w : Wrld) : List (Nat × Wt.Obj) := [(1, .arr (w.nodes.map sN))]
theorem sW_put (w : Wrld) (k : Nat) (x : Nod × Vote × Bool) : sW (if x.2.2 then sendF w x.2.1 else w) = sW (putF w k x) := by
  unfold putF
  cases x.2.2 with
  | false => rfl
  | true =>
    show sW (sendF w x.2.1) = sW (sendF _ x.2.1)
    unfold sendF
    simp only
    split <;> rfl
theorem put_nodes (w : Wrld) (k : Nat) (x : Nod × Vote × Bool) : (putF w k x).nodes = w.nodes.set k x.1 := by
  unfold putF
  split
  · unfold sendF; split <;> rfl
  · rfl
theorem set_sN (ns : List Nod) (k : Nat) (n : Nod) (y : NodS) : ((ns.map sN).set k y).set k (sN n) = (ns.set k n).map sN := by
  rw [List.set_set, List.map_set]
set_option maxHeartbeats 4000000 in
theorem l21Propose_ct (w : Wrld) (id : Int) (p : Pay) (hw : FineX w) : CtO Try.prog 117 [.v (sW w), .v id, .v p] (so w) (.v (sW (wproposeF w id p))) (so (wproposeF w id p)) := by
  have h4 := hw.four
  refine Ct.intro Try.func117 rfl rfl ?_
  all_goals refine awp_seq (awp_region (id := 0) ?_)
  all_goals refine awpOps_cons (op_boxm (o := 5) ty61_WrldS rfl rfl rfl rfl) ?_
  all_goals refine awpOps_cons (op_box (o := 6) ty36 rfl (Conv.of rfl) rfl rfl) ?_
  all_goals refine awpOps_cons (op_alloc (o := 7) z61_WrldS rfl rfl) ?_
  all_goals refine awpOps_nil ?_
  refine awp_seq (awp_seq_to (s' := mkSt 52 [(1, .v id), (3, .box 5 (IsLens.whole WrldS)), (5, .box 6 (IsLens.whole Pay)), (6, .box 7 (IsLens.whole WrldS)), (28, .v (!(within id 1 4 && !decide (id = w.bad) && payOk p && decide (w.log.length < 80))))] [(1, .arr (w.nodes.map sN)), (5, .cell (sW w)), (6, .cell p), (7, .cell WrldS.zero)]) ?_ ?_)
  · all_goals refine awp_region (id := 1) ?_
    all_goals refine awpOps_cons (op_mv rfl (Conv.of rfl) rfl) ?_
    all_goals refine awpOps_cons (op_call fb51 (.cons rfl (Conv.of rfl) (.cons rfl (Conv.of rfl) (.cons rfl (Conv.of rfl) (.nil _)))) (l6In_ct _ _ _) (argOk rfl rfl (argOk rfl rfl (argOk rfl rfl argOk0))) rfl rfl) ?_
    all_goals refine awpOps_cons (op_not rfl rfl) ?_
    all_goals refine awpOps_cons (op_mv rfl (Conv.of rfl) rfl) ?_
    all_goals refine g_split (t := 13) rfl (fun h => ?_) (fun h => ?_)
    all_goals first | refine awpOps_cons (g_off rfl rfl rfl rfl rfl) ?_ | refine awpOps_cons (g_on rfl rfl rfl (op_mv rfl (Conv.of rfl) rfl)) ?_
    all_goals first | refine awpOps_cons (g_off rfl rfl rfl rfl rfl) ?_ | refine awpOps_cons (g_on rfl rfl rfl (op_fab f61_3_WrldS rfl rfl)) ?_
    all_goals first | refine awpOps_cons (g_off rfl rfl rfl rfl rfl) ?_ | refine awpOps_cons (g_on rfl rfl rfl (op_ld ty3 rfl rfl rfl)) ?_
    all_goals first | refine awpOps_cons (g_off rfl rfl rfl rfl rfl) ?_ | refine awpOps_cons (g_on rfl rfl rfl (op_eql rfl rfl rfl)) ?_
    all_goals refine awpOps_cons (op_pick rfl rfl rfl rfl) ?_
    all_goals refine awpOps_cons (op_mv rfl (Conv.of rfl) rfl) ?_
    all_goals first | refine g_lit (t := 19) (b := true) rfl ?_ | refine g_split (t := 19) rfl (fun h => ?_) (fun h => ?_)
    all_goals first | refine awpOps_cons (g_off rfl rfl rfl rfl rfl) ?_ | refine awpOps_cons (g_on rfl rfl rfl (op_ld ty36 rfl rfl rfl)) ?_
    all_goals first | refine awpOps_cons (g_off rfl rfl rfl rfl rfl) ?_ | refine awpOps_cons (g_on rfl rfl rfl (op_call fb113 (.cons rfl (Conv.of rfl) (.nil _)) (sPayOk_ct _) (argOk rfl rfl argOk0) rfl rfl)) ?_
    all_goals first | refine awpOps_cons (g_off rfl rfl rfl rfl rfl) ?_ | refine awpOps_cons (g_on rfl rfl rfl (op_not rfl rfl)) ?_
    all_goals refine awpOps_cons (op_pick rfl rfl rfl rfl) ?_
    all_goals refine awpOps_cons (op_mv rfl (Conv.of rfl) rfl) ?_
    all_goals first | refine g_lit (t := 24) (b := true) rfl ?_ | refine g_split (t := 24) rfl (fun h => ?_) (fun h => ?_)
    all_goals first | refine awpOps_cons (g_off rfl rfl rfl rfl rfl) ?_ | refine awpOps_cons (g_on rfl rfl rfl (op_ldd ty61_WrldS rfl rfl rfl)) ?_
    all_goals first | refine awpOps_cons (g_off rfl rfl rfl rfl rfl) ?_ | refine awpOps_cons (g_on rfl rfl rfl (op_callO fb127 (.cons rfl (Conv.of rfl) (.nil _)) (l21Room_ct w _) (olsk rfl ols0) (oksk (by exact obOkNs) oks0) (oksk (by exact obOkNs) oks0) rfl (argOb rfl rfl rfl argO0) (fun o ho => by cases ho) rfl)) ?_
    all_goals first | refine awpOps_cons (g_off rfl rfl rfl rfl rfl) ?_ | refine awpOps_cons (g_on rfl rfl rfl (op_not rfl rfl)) ?_
    all_goals refine awpOps_cons (op_pick rfl rfl rfl rfl) ?_
    all_goals refine awpOps_nil ?_
    all_goals exact Le.mk rfl (tle rfl (rfl) rfl (tlb rfl rfl rfl (tlb rfl rfl rfl (tlb rfl rfl rfl (tle rfl (by (simp_all [sW]; try (rw [Bool.eq_iff_iff]; simp; try omega))) rfl tln))))) (olk rfl (by exact obOkNs) (olk rfl (by exact obOkS rfl) (olk rfl (by exact obOk_cell) (olk rfl (by exact obOkS0) oln)))) (hS_sub (a := so w) rfl)
  refine awp_cond rfl (fun h => ?_) (fun h => ?_)
  · all_goals refine awp_seq (awp_region (id := 2) ?_)
    all_goals refine awpOps_cons (op_ldm ty61_WrldS rfl rfl rfl) ?_
    all_goals refine awpOps_cons (op_stm ty61_WrldS rfl rfl rfl) ?_
    all_goals refine awpOps_nil ?_
    refine awp_ret ?_
    repeat first | refine rt_seq ?_ | refine rt_block ?_
    refine ⟨_, _, res1C (ol := so w) ty61_WrldS rfl rfl (inOne rfl) (olk rfl obOkNs oln) (hS_sub rfl), ?_, ?_⟩
    · have h' := not_t h
      have e : wproposeF w id p = w := by
        unfold wproposeF honestB
        rw [if_neg]
        intro hh
        simp only [Bool.and_eq_true] at hh
        simp [hh.1.1.1, hh.1.1.2, hh.1.2, hh.2] at h'
      rw [e]
    · have h' := not_t h
      have e : wproposeF w id p = w := by
        unfold wproposeF honestB
        rw [if_neg]
        intro hh
        simp only [Bool.and_eq_true] at hh
        simp [hh.1.1.1, hh.1.1.2, hh.1.2, hh.2] at h'
      rw [e]
  · have h' := not_f h
    simp only [Bool.and_eq_true] at h'
    have hid : 1 ≤ id ∧ id ≤ 4 := by simpa [within] using h'.1.1.1
    have hlt : (id - 1).toNat < w.nodes.length := by omega
    have hx : w.nodes[(id - 1).toNat]? = some w.nodes[(id - 1).toNat] := List.getElem?_eq_getElem hlt
    have hno := hw.nodes _ (List.getElem_mem hlt)
    generalize hnn : w.nodes[(id - 1).toNat] = n at hx hno
    have hx' : (w.nodes.map sN)[(id - 1).toNat]? = some (sN n) := by rw [List.getElem?_map, hx]; rfl
    have hy : ∀ y : NodS, ((w.nodes.map sN).set (id - 1).toNat y)[(id - 1).toNat]? = some y := fun y => by
      rw [List.getElem?_set_self (by rw [List.length_map]; exact hlt)]
    have hln : ((w.nodes.map sN).length : Int) = 4 := by simp [h4]
    have hgd := hw.fine.seen n (List.mem_of_getElem? hx)
    have e : wproposeF w id p = putF w (id - 1).toNat (proposeF n p) := by
      unfold wproposeF honestB
      rw [if_pos (by simp only [h'.1.1.1, h'.1.1.2, h'.1.2, h'.2, Bool.and_self]), hx]
    rw [e]
    refine awp_skip ?_
    all_goals refine awp_seq (dr_start (id := 3) ?_)
    all_goals refine dr_cons (op_fab f61_1_WrldS rfl rfl) ?_
    all_goals refine dr_cons (op_ld ty59_NRef rfl rfl rfl) ?_
    all_goals refine dr_cons (op_mv rfl (Conv.of rfl) rfl) ?_
    all_goals refine dr_cons (op_sub rfl rfl rfl (by omega)) ?_
    all_goals refine dr_cons (op_ixA sl59_NodS rfl rfl rfl rfl ⟨by omega, by omega⟩) ?_
    all_goals refine dr_cons (op_ldme ty25_NodS rfl rfl hx' rfl) ?_
    all_goals refine dr_cons (op_ld ty36 rfl rfl rfl) ?_
    all_goals refine dr_cons (OpOk.emit (d := 38) (o' := 9) 28 (op_callM (s := 36) (ol := []) (ol' := []) (pre := []) fb128 (.nil _) rfl (.cons rfl (Conv.of rfl) (.nil _)) (l12Propose_w n p hno) ols0 oks0 oks0 rfl argO0 (argOk' rfl rfl argO0) (fun o ho => absurd (show o ∈ ([] : List Nat) from ho) (by simp)) (fun o ho => absurd (show o ∈ ([] : List Nat) from ho) (by simp)) rfl) rfl rfl rfl rfl rfl) ?_
    all_goals refine dr_cons (op_mv rfl (Conv.of rfl) rfl) ?_
    all_goals refine dr_cons (op_ext rfl rfl rfl) ?_
    all_goals refine dr_cons (op_ext rfl rfl rfl) ?_
    all_goals refine dr_cons (op_ext rfl rfl rfl) ?_
    all_goals refine dr_cons (op_alloc (o := 10) z25_NodR rfl rfl) ?_
    all_goals refine dr_cons (op_alloc (o := 11) z28 rfl rfl) ?_
    all_goals refine dr_cons (op_st ty25_NodR rfl rfl (Conv.of rfl) rfl) ?_
    all_goals refine dr_cons (op_st ty28 rfl rfl (Conv.of rfl) rfl) ?_
    all_goals refine dr_cons (op_as rfl (Conv.of rfl) rfl) ?_
    all_goals refine dr_nil mixed rfl ?_
    all_goals refine awp_seq (awp_region (id := 4) ?_)
    all_goals refine awpOps_cons (op_fab f61_1_WrldS rfl rfl) ?_
    all_goals refine awpOps_cons (op_ld ty59_NRef rfl rfl rfl) ?_
    all_goals refine awpOps_cons (op_mv rfl (Conv.of rfl) rfl) ?_
    all_goals refine awpOps_cons (op_sub rfl rfl rfl (by omega)) ?_
    all_goals refine awpOps_cons (op_ld ty25_NodR rfl rfl rfl) ?_
    all_goals refine awpOps_cons (op_ixA sl59_NodS rfl rfl rfl rfl ⟨by omega, by simp; omega⟩) ?_
    all_goals refine awpOps_cons (op_steR 28 rfl ty25_NodS rfl rfl rfl rfl (hy _)) ?_
    all_goals refine awpOps_nil ?_
    all_goals refine awp_seq (awp_region (id := 5) ?_)
    all_goals refine awpOps_cons (op_ldm ty61_WrldS rfl rfl rfl) ?_
    all_goals refine awpOps_cons (op_ld ty28 rfl rfl rfl) ?_
    all_goals refine awpOps_cons (op_mv rfl (Conv.of rfl) rfl) ?_
    all_goals refine awpOps_cons (op_callM (s := 48) (pre := []) fb119 (.nil _) rfl (.cons rfl (Conv.of rfl) (.cons rfl (Conv.of rfl) (.nil _))) (l21Send_ct w _ _ _ hw.fine.log (proposeF_len p hgd)) (olsk rfl ols0) (oksk (by exact obOkNs) oks0) (oksk (by exact obOkNs) oks0) rfl argO0 (argOk' rfl rfl (argOk' rfl rfl argO0)) (inOne rfl) (inOne rfl) rfl) ?_
    all_goals refine awpOps_cons (op_stm ty61_WrldS rfl rfl rfl) ?_
    all_goals refine awpOps_nil ?_
    refine awp_ret ?_
    repeat first | refine rt_seq ?_ | refine rt_block ?_
    refine ⟨_, _, res1C (ol := [(1, .arr _)]) ty61_WrldS rfl rfl (inOne rfl) (olk rfl obOkNs oln) (hS_sub rfl), ?_, ?_⟩
    · rw [← sW_put]; rfl
    · exact congrArg (fun z => obs [(1, Wt.Obj.arr z)]) (by rw [put_nodes]; exact set_sN _ _ _ _)
set_option maxHeartbeats 4000000 in
theorem l21Bring_ct (w : Wrld) (at_ id : Int) (hw : FineX w) : CtO Try.prog 118 [.v (sW w), .v at_, .v id] (so w) (.v (sW (wbringF w at_ id))) (so (wbringF w at_ id)) := by
  have h4 := hw.four
  have hlg := hw.fine.log.len
  have hidle : ∀ h' : (within at_ 0 ((w.log.length : Int) - 1) && within id 1 4 && !decide (id = w.bad) && decide (w.log.length < 80)) = false, wbringF w at_ id = w := fun h' => by
    unfold wbringF honestB
    rw [if_neg]
    intro hh
    simp only [Bool.and_eq_true] at hh
    simp [hh.1.1.1, hh.1.1.2, hh.1.2, hh.2] at h'
  refine Ct.intro Try.func118 rfl rfl ?_
  all_goals refine awp_seq (awp_region (id := 0) ?_)
  all_goals refine awpOps_cons (op_boxm (o := 5) ty61_WrldS rfl rfl rfl rfl) ?_
  all_goals refine awpOps_cons (op_alloc (o := 6) z61_WrldS rfl rfl) ?_
  all_goals refine awpOps_nil ?_
  refine awp_seq (awp_seq_to (s' := mkSt 60 [(1, .v at_), (2, .v id), (3, .box 5 (IsLens.whole WrldS)), (6, .box 6 (IsLens.whole WrldS)), (32, .v (!(within at_ 0 ((w.log.length : Int) - 1) && within id 1 4 && !decide (id = w.bad) && decide (w.log.length < 80))))] [(1, .arr (w.nodes.map sN)), (5, .cell (sW w)), (6, .cell WrldS.zero)]) ?_ ?_)
  · all_goals refine awp_region (id := 1) ?_
    all_goals refine awpOps_cons (op_mv rfl (Conv.of rfl) rfl) ?_
    all_goals refine awpOps_cons (op_fab f61_2_WrldS rfl rfl) ?_
    all_goals refine awpOps_cons (op_ldl ty23_OListVote rfl rfl rfl) ?_
    all_goals refine awpOps_cons (op_len sl23 rfl rfl) ?_
    all_goals refine awpOps_cons (op_sub rfl rfl rfl (by (simp only [sW]; omega))) ?_
    all_goals refine awpOps_cons (op_call fb51 (.cons rfl (Conv.of rfl) (.cons rfl (Conv.of rfl) (.cons rfl (Conv.of rfl) (.nil _)))) (l6In_ct _ _ _) (argOk rfl rfl (argOk rfl rfl (argOk rfl rfl argOk0))) rfl rfl) ?_
    all_goals refine awpOps_cons (op_not rfl rfl) ?_
    all_goals refine awpOps_cons (op_mv rfl (Conv.of rfl) rfl) ?_
    all_goals refine g_split (t := 17) rfl (fun h => ?_) (fun h => ?_)
    all_goals first | refine awpOps_cons (g_off rfl rfl rfl rfl rfl) ?_ | refine awpOps_cons (g_on rfl rfl rfl (op_mv rfl (Conv.of rfl) rfl)) ?_
    all_goals first | refine awpOps_cons (g_off rfl rfl rfl rfl rfl) ?_ | refine awpOps_cons (g_on rfl rfl rfl (op_call fb51 (.cons rfl (Conv.of rfl) (.cons rfl (Conv.of rfl) (.cons rfl (Conv.of rfl) (.nil _)))) (l6In_ct _ _ _) (argOk rfl rfl (argOk rfl rfl (argOk rfl rfl argOk0))) rfl rfl)) ?_
    all_goals first | refine awpOps_cons (g_off rfl rfl rfl rfl rfl) ?_ | refine awpOps_cons (g_on rfl rfl rfl (op_not rfl rfl)) ?_
    all_goals refine awpOps_cons (op_pick rfl rfl rfl rfl) ?_
    all_goals refine awpOps_cons (op_mv rfl (Conv.of rfl) rfl) ?_
    all_goals first | refine g_lit (t := 22) (b := true) rfl ?_ | refine g_split (t := 22) rfl (fun h => ?_) (fun h => ?_)
    all_goals first | refine awpOps_cons (g_off rfl rfl rfl rfl rfl) ?_ | refine awpOps_cons (g_on rfl rfl rfl (op_mv rfl (Conv.of rfl) rfl)) ?_
    all_goals first | refine awpOps_cons (g_off rfl rfl rfl rfl rfl) ?_ | refine awpOps_cons (g_on rfl rfl rfl (op_fab f61_3_WrldS rfl rfl)) ?_
    all_goals first | refine awpOps_cons (g_off rfl rfl rfl rfl rfl) ?_ | refine awpOps_cons (g_on rfl rfl rfl (op_ld ty3 rfl rfl rfl)) ?_
    all_goals first | refine awpOps_cons (g_off rfl rfl rfl rfl rfl) ?_ | refine awpOps_cons (g_on rfl rfl rfl (op_eql rfl rfl rfl)) ?_
    all_goals refine awpOps_cons (op_pick rfl rfl rfl rfl) ?_
    all_goals refine awpOps_cons (op_mv rfl (Conv.of rfl) rfl) ?_
    all_goals first | refine g_lit (t := 28) (b := true) rfl ?_ | refine g_split (t := 28) rfl (fun h => ?_) (fun h => ?_)
    all_goals first | refine awpOps_cons (g_off rfl rfl rfl rfl rfl) ?_ | refine awpOps_cons (g_on rfl rfl rfl (op_ldd ty61_WrldS rfl rfl rfl)) ?_
    all_goals first | refine awpOps_cons (g_off rfl rfl rfl rfl rfl) ?_ | refine awpOps_cons (g_on rfl rfl rfl (op_callO fb127 (.cons rfl (Conv.of rfl) (.nil _)) (l21Room_ct w _) (olsk rfl ols0) (oksk (by exact obOkNs) oks0) (oksk (by exact obOkNs) oks0) rfl (argOb rfl rfl rfl argO0) (fun o ho => by cases ho) rfl)) ?_
    all_goals first | refine awpOps_cons (g_off rfl rfl rfl rfl rfl) ?_ | refine awpOps_cons (g_on rfl rfl rfl (op_not rfl rfl)) ?_
    all_goals refine awpOps_cons (op_pick rfl rfl rfl rfl) ?_
    all_goals refine awpOps_nil ?_
    all_goals exact Le.mk rfl (tle rfl (rfl) rfl (tle rfl (rfl) rfl (tlb rfl rfl rfl (tlb rfl rfl rfl (tle rfl (by (simp_all [sW]; try (rw [Bool.eq_iff_iff]; simp; try omega))) rfl tln))))) (olk rfl (by exact obOkNs) (olk rfl (by exact obOkS rfl) (olk rfl (by exact obOkS0) oln))) (hS_sub (a := so w) rfl)
  refine awp_cond rfl (fun h => ?_) (fun h => ?_)
  · all_goals refine awp_seq (awp_region (id := 2) ?_)
    all_goals refine awpOps_cons (op_ldm ty61_WrldS rfl rfl rfl) ?_
    all_goals refine awpOps_cons (op_stm ty61_WrldS rfl rfl rfl) ?_
    all_goals refine awpOps_nil ?_
    refine awp_ret ?_
    repeat first | refine rt_seq ?_ | refine rt_block ?_
    refine ⟨_, _, res1C (ol := so w) ty61_WrldS rfl rfl (inOne rfl) (olk rfl obOkNs oln) (hS_sub rfl), ?_, ?_⟩
    · rw [hidle (not_t h)]
    · rw [hidle (not_t h)]
  · have h' := not_f h
    simp only [Bool.and_eq_true] at h'
    have hid : 1 ≤ id ∧ id ≤ 4 := by simpa [within] using h'.1.1.2
    have hat : 0 ≤ at_ ∧ at_ ≤ (w.log.length : Int) - 1 := by simpa [within] using h'.1.1.1
    have hlt : (id - 1).toNat < w.nodes.length := by omega
    have hx : w.nodes[(id - 1).toNat]? = some w.nodes[(id - 1).toNat] := List.getElem?_eq_getElem hlt
    have hltv : at_.toNat < w.log.length := by omega
    have hv : w.log[at_.toNat]? = some w.log[at_.toNat] := List.getElem?_eq_getElem hltv
    have hno := hw.nodes _ (List.getElem_mem hlt)
    have hvl := hw.fine.log.v _ (List.getElem_mem hltv)
    generalize hnn : w.nodes[(id - 1).toNat] = n at hx hno
    generalize hvv : w.log[at_.toNat] = v at hv hvl
    have hv' : (sW w).log.l[at_.toNat]? = some v := hv
    have hx' : (w.nodes.map sN)[(id - 1).toNat]? = some (sN n) := by rw [List.getElem?_map, hx]; rfl
    have hy : ∀ y : NodS, ((w.nodes.map sN).set (id - 1).toNat y)[(id - 1).toNat]? = some y := fun y => by
      rw [List.getElem?_set_self (by rw [List.length_map]; exact hlt)]
    have hln : ((w.nodes.map sN).length : Int) = 4 := by simp [h4]
    have hgd := hw.fine.seen n (List.mem_of_getElem? hx)
    have e : wbringF w at_ id = putF w (id - 1).toNat (hearF n v) := by
      unfold wbringF honestB
      rw [if_pos (by simp only [h'.1.1.1, h'.1.1.2, h'.1.2, h'.2, Bool.and_self]), hx, hv]
    rw [e]
    refine awp_skip ?_
    all_goals refine awp_seq (dr_start (id := 3) ?_)
    all_goals refine dr_cons (op_fab f61_1_WrldS rfl rfl) ?_
    all_goals refine dr_cons (op_ld ty59_NRef rfl rfl rfl) ?_
    all_goals refine dr_cons (op_mv rfl (Conv.of rfl) rfl) ?_
    all_goals refine dr_cons (op_sub rfl rfl rfl (by omega)) ?_
    all_goals refine dr_cons (op_ixA sl59_NodS rfl rfl rfl rfl ⟨by omega, by omega⟩) ?_
    all_goals refine dr_cons (op_ldme ty25_NodS rfl rfl hx' rfl) ?_
    all_goals refine dr_cons (op_fab f61_2_WrldS rfl rfl) ?_
    all_goals refine dr_cons (op_ldl ty23_OListVote rfl rfl rfl) ?_
    all_goals refine dr_cons (op_mv rfl (Conv.of rfl) rfl) ?_
    all_goals refine dr_cons (op_ix sl23 rfl rfl rfl (by omega) hv') ?_
    all_goals refine dr_cons (op_ldr ty28 rfl rfl) ?_
    all_goals refine dr_cons (OpOk.emit (d := 46) (o' := 9) 32 (op_callM (s := 40) (ol := []) (ol' := []) (pre := []) fb40 (.nil _) rfl (.cons rfl (Conv.of rfl) (.nil _)) (l12Hear_w n v hno hvl) ols0 oks0 oks0 rfl argO0 (argOk' rfl rfl argO0) (fun o ho => absurd (show o ∈ ([] : List Nat) from ho) (by simp)) (fun o ho => absurd (show o ∈ ([] : List Nat) from ho) (by simp)) rfl) rfl rfl rfl rfl rfl) ?_
    all_goals refine dr_cons (op_mv rfl (Conv.of rfl) rfl) ?_
    all_goals refine dr_cons (op_ext rfl rfl rfl) ?_
    all_goals refine dr_cons (op_ext rfl rfl rfl) ?_
    all_goals refine dr_cons (op_ext rfl rfl rfl) ?_
    all_goals refine dr_cons (op_alloc (o := 10) z25_NodR rfl rfl) ?_
    all_goals refine dr_cons (op_alloc (o := 11) z28 rfl rfl) ?_
    all_goals refine dr_cons (op_st ty25_NodR rfl rfl (Conv.of rfl) rfl) ?_
    all_goals refine dr_cons (op_st ty28 rfl rfl (Conv.of rfl) rfl) ?_
    all_goals refine dr_cons (op_as rfl (Conv.of rfl) rfl) ?_
    all_goals refine dr_nil mixed rfl ?_
    all_goals refine awp_seq (awp_region (id := 4) ?_)
    all_goals refine awpOps_cons (op_fab f61_1_WrldS rfl rfl) ?_
    all_goals refine awpOps_cons (op_ld ty59_NRef rfl rfl rfl) ?_
    all_goals refine awpOps_cons (op_mv rfl (Conv.of rfl) rfl) ?_
    all_goals refine awpOps_cons (op_sub rfl rfl rfl (by omega)) ?_
    all_goals refine awpOps_cons (op_ld ty25_NodR rfl rfl rfl) ?_
    all_goals refine awpOps_cons (op_ixA sl59_NodS rfl rfl rfl rfl ⟨by omega, by simp; omega⟩) ?_
    all_goals refine awpOps_cons (op_steR 32 rfl ty25_NodS rfl rfl rfl rfl (hy _)) ?_
    all_goals refine awpOps_nil ?_
    all_goals refine awp_seq (awp_region (id := 5) ?_)
    all_goals refine awpOps_cons (op_ldm ty61_WrldS rfl rfl rfl) ?_
    all_goals refine awpOps_cons (op_ld ty28 rfl rfl rfl) ?_
    all_goals refine awpOps_cons (op_mv rfl (Conv.of rfl) rfl) ?_
    all_goals refine awpOps_cons (op_callM (s := 56) (pre := []) fb119 (.nil _) rfl (.cons rfl (Conv.of rfl) (.cons rfl (Conv.of rfl) (.nil _))) (l21Send_ct w _ _ _ hw.fine.log (hearF_len v hgd)) (olsk rfl ols0) (oksk (by exact obOkNs) oks0) (oksk (by exact obOkNs) oks0) rfl argO0 (argOk' rfl rfl (argOk' rfl rfl argO0)) (inOne rfl) (inOne rfl) rfl) ?_
    all_goals refine awpOps_cons (op_stm ty61_WrldS rfl rfl rfl) ?_
    all_goals refine awpOps_nil ?_
    refine awp_ret ?_
    repeat first | refine rt_seq ?_ | refine rt_block ?_
    refine ⟨_, _, res1C (ol := [(1, .arr _)]) ty61_WrldS rfl rfl (inOne rfl) (olk rfl obOkNs oln) (hS_sub rfl), ?_, ?_⟩
    · rw [← sW_put]; rfl
    · exact congrArg (fun z => obs [(1, Wt.Obj.arr z)]) (by rw [put_nodes]; exact set_sN _ _ _ _)
end Go.Proofs.Ytmabpmlcclgecaa

/- Rows of the reference, taken for rows of the program; results that are written no more. -/
set_option linter.unusedVariables false
set_option linter.unusedSimpArgs false
namespace Go.Wt
open Go
theorem rd_SN {G : Gh} {w : Go.World} {ω : Owner} {n : Nod} {cs : List Value} (h : Enc.rd G w ω (sN n) cs) : Enc.rd G w ω n cs := by
  obtain ⟨c1, c2, rfl, r1, ⟨c3, c4, rfl, r3, ⟨c5, c6, rfl, r5, ⟨a, cap, h1, h2, h3, h4⟩⟩⟩⟩ := h
  exact ⟨c1, _, rfl, r1, c3, _, rfl, r3, c5, _, rfl, r5, ⟨a, cap, h1, h2, h3⟩⟩
theorem arr_n {G : Gh} {w : Go.World} {o : Nat} {ns : List Nod} (h : RelO G w o (.arr (ns.map sN))) : RelO G w o (.arr ns) := by
  obtain ⟨b, cap, cs, e, h1, h2, h3, h4, h5, h6⟩ := h
  refine ⟨b, cap, cs, e, by simpa using h1, h2, by simpa using h3, h4, fun i x hx => ?_, h6⟩
  obtain ⟨c, c1, c2⟩ := h5 i (sN x) (by rw [List.getElem?_map, hx]; rfl)
  exact ⟨c, rd_SN c1, c2⟩
/-- The objects behind a call may be taken for others. -/
theorem Ct.obs {P : Program} {f : FuncId} {args : List AV} {h h' h'' : Nat → Wt.Obj} {r : AV} (k : Ct P f args h fun r1 h1 => r1 = r ∧ h1 = h') (hx : ∀ G w, (∀ o, RelO G w o (h' o)) → ∀ o, RelO G w o (h'' o)) :
    Ct P f args h fun r1 h1 => r1 = r ∧ h1 = h'' := fun G w vs h1 h2 =>
  (k G w vs h1 h2).mono fun e w' ⟨r1, h1', v, G', e1, ⟨e2, e3⟩, e4, e5, e6⟩ => by
    subst e2 e3
    exact ⟨_, h'', v, G', e1, ⟨rfl, rfl⟩, e4, hx G' w' e5, e6⟩
/-- A result may be taken for another. -/
theorem Ct.res {P : Program} {f : FuncId} {args : List AV} {h h' : Nat → Wt.Obj} {r r' : AV} (k : Ct P f args h fun r1 h1 => r1 = r ∧ h1 = h') (hx : ∀ G w u, RelV G w (.ret, []) r u → RelV G w (.ret, []) r' u) :
    Ct P f args h fun r1 h1 => r1 = r' ∧ h1 = h' := fun G w vs h1 h2 =>
  (k G w vs h1 h2).mono fun e w' ⟨r1, h1', v, G', e1, ⟨e2, e3⟩, e4, e5, e6⟩ => by
    subst e2 e3
    exact ⟨_, _, v, G', e1, ⟨rfl, rfl⟩, hx _ _ _ e4, e5, e6⟩
end Go.Wt

/- The reference: what happens in a world; a play. -/
set_option linter.unusedVariables false
set_option linter.unusedSimpArgs false
namespace Go.Proofs.Ytmabpmlcclgecaa
open Go Go.Wt
theorem send_nodes (w : Wrld) (v : Vote) : (sendF w v).nodes = w.nodes := by unfold sendF; split <;> rfl
set_option maxHeartbeats 1000000 in
theorem l21Tick_ct (w : Wrld) (hw : Fine w) : CtO Try.prog 116 [.v (sW w)] (so w) (.v (sW (tickF w))) (so (tickF w)) := by
  have hep := hw.ep
  have h4 := hw.four
  refine Ct.intro Try.func116 rfl rfl ?_
  all_goals first | refine awp_seq (awp_region (id := 0) ?_) | refine awp_seq (awp_seq (awp_region (id := 0) ?_)) | refine awp_region (id := 0) ?_ | refine awp_seq (awp_seq (awp_seq (awp_region (id := 0) ?_)))
  all_goals first | refine awpOps_cons (op_box (o := 5) ty61_WrldS rfl (Conv.of rfl) rfl rfl) ?_ | refine awpOps_cons (op_boxm (o := 5) ty61_WrldS rfl rfl rfl rfl) ?_
  all_goals refine awpOps_cons (op_alloc (o := 6) z61_WrldS rfl rfl) ?_
  all_goals refine awpOps_nil ?_
  all_goals first | refine awp_seq (awp_region (id := 1) ?_) | refine awp_seq (awp_seq (awp_region (id := 1) ?_)) | refine awp_region (id := 1) ?_ | refine awp_seq (awp_seq (awp_seq (awp_region (id := 1) ?_)))
  all_goals first | refine awpOps_cons (op_fab f61_0_WrldS rfl rfl) ?_ | refine awpOps_cons (op_far f61_0_WrldS rfl rfl) ?_ | refine awpOps_cons (op_fae f61_0_WrldS rfl rfl) ?_
  all_goals first | refine awpOps_cons (op_ld ty3 rfl rfl rfl) ?_ | refine awpOps_cons (op_ldr ty3 rfl rfl) ?_ | refine awpOps_cons (op_lde ty3 rfl rfl (by assumption) rfl) ?_ | refine awpOps_cons (op_ldl ty3 rfl rfl rfl) ?_ | refine awpOps_cons (op_ldd ty3 rfl rfl rfl) ?_ | refine awpOps_cons (op_ldde ty3 rfl rfl (by assumption) rfl) ?_
  all_goals refine awpOps_cons (op_add rfl rfl rfl (by ((try simp only [sW]); omega))) ?_
  all_goals refine awpOps_cons (op_min rfl rfl rfl) ?_
  all_goals first | refine awpOps_cons (op_fab f61_0_WrldS rfl rfl) ?_ | refine awpOps_cons (op_far f61_0_WrldS rfl rfl) ?_ | refine awpOps_cons (op_fae f61_0_WrldS rfl rfl) ?_
  all_goals first | refine awpOps_cons (op_st ty3 rfl rfl (Conv.of rfl) rfl) ?_ | refine awpOps_cons (op_ste ty3 rfl rfl (Conv.of rfl) rfl (by assumption)) ?_ | refine awpOps_cons (op_stm ty3 rfl rfl rfl) ?_ | refine awpOps_cons (op_stme ty3 rfl rfl rfl (by assumption)) ?_
  all_goals refine awpOps_nil ?_
  all_goals first | refine awp_seq (awp_region (id := 2) ?_) | refine awp_seq (awp_seq (awp_region (id := 2) ?_)) | refine awp_region (id := 2) ?_ | refine awp_seq (awp_seq (awp_seq (awp_region (id := 2) ?_)))
  all_goals refine awpOps_cons (op_as rfl (Conv.of rfl) rfl) ?_
  all_goals refine awpOps_nil ?_
  first | refine awp_seq (awp_block ?_) | refine awp_seq (awp_seq (awp_block ?_)) | refine awp_block ?_ | refine awp_seq (awp_seq (awp_seq (awp_block ?_)))
  first | refine awp_seq (awp_loop' (fun n_ s => ∃ (k : Nat), ∃ (hn : n_ + k = 4), s = mkSt 29 [(1, .box 5 (IsLens.whole WrldS)), (2, .box 6 (IsLens.whole WrldS)), (3, .v (k : Int))] [(1, .arr (((w.nodes.take k).map (fun n => enterF n (min (w.epoch + 1) 30)) ++ w.nodes.drop k).map sN)), (5, .cell (sW (tickF w))), (6, .cell WrldS.zero)]) (4) ⟨0, by omega, rfl⟩ (Le.mk rfl (tlb rfl rfl rfl (tlb rfl rfl rfl (tle rfl (rfl) rfl tln))) (olk (by first | rfl | (exact congrArg Obj.arr (hnext _))) (by first | exact obOk_cell | exact obOk_arr | exact obOkW rfl | exact obOkW0 | exact obOkN | exact obOkS rfl | exact obOkNs | exact obOkS0 | trivial) (olk rfl (by first | exact obOk_cell | exact obOk_arr | exact obOkW rfl | exact obOkW0 | exact obOkN | exact obOkS rfl | exact obOkNs | exact obOkS0 | trivial) (olk rfl (by first | exact obOk_cell | exact obOk_arr | exact obOkW rfl | exact obOkW0 | exact obOkN | exact obOkS rfl | exact obOkNs | exact obOkS0 | trivial) oln))) (hS_sub (a := so w) rfl)) ?_) | refine awp_seq (awp_seq (awp_loop' (fun n_ s => ∃ (k : Nat), ∃ (hn : n_ + k = 4), s = mkSt 29 [(1, .box 5 (IsLens.whole WrldS)), (2, .box 6 (IsLens.whole WrldS)), (3, .v (k : Int))] [(1, .arr (((w.nodes.take k).map (fun n => enterF n (min (w.epoch + 1) 30)) ++ w.nodes.drop k).map sN)), (5, .cell (sW (tickF w))), (6, .cell WrldS.zero)]) (4) ⟨0, by omega, rfl⟩ (Le.mk rfl (tlb rfl rfl rfl (tlb rfl rfl rfl (tle rfl (rfl) rfl tln))) (olk (by first | rfl | (exact congrArg Obj.arr (hnext _))) (by first | exact obOk_cell | exact obOk_arr | exact obOkW rfl | exact obOkW0 | exact obOkN | exact obOkS rfl | exact obOkNs | exact obOkS0 | trivial) (olk rfl (by first | exact obOk_cell | exact obOk_arr | exact obOkW rfl | exact obOkW0 | exact obOkN | exact obOkS rfl | exact obOkNs | exact obOkS0 | trivial) (olk rfl (by first | exact obOk_cell | exact obOk_arr | exact obOkW rfl | exact obOkW0 | exact obOkN | exact obOkS rfl | exact obOkNs | exact obOkS0 | trivial) oln))) (hS_sub (a := so w) rfl)) ?_)) | refine awp_loop' (fun n_ s => ∃ (k : Nat), ∃ (hn : n_ + k = 4), s = mkSt 29 [(1, .box 5 (IsLens.whole WrldS)), (2, .box 6 (IsLens.whole WrldS)), (3, .v (k : Int))] [(1, .arr (((w.nodes.take k).map (fun n => enterF n (min (w.epoch + 1) 30)) ++ w.nodes.drop k).map sN)), (5, .cell (sW (tickF w))), (6, .cell WrldS.zero)]) (4) ⟨0, by omega, rfl⟩ (Le.mk rfl (tlb rfl rfl rfl (tlb rfl rfl rfl (tle rfl (rfl) rfl tln))) (olk (by first | rfl | (exact congrArg Obj.arr (hnext _))) (by first | exact obOk_cell | exact obOk_arr | exact obOkW rfl | exact obOkW0 | exact obOkN | exact obOkS rfl | exact obOkNs | exact obOkS0 | trivial) (olk rfl (by first | exact obOk_cell | exact obOk_arr | exact obOkW rfl | exact obOkW0 | exact obOkN | exact obOkS rfl | exact obOkNs | exact obOkS0 | trivial) (olk rfl (by first | exact obOk_cell | exact obOk_arr | exact obOkW rfl | exact obOkW0 | exact obOkN | exact obOkS rfl | exact obOkNs | exact obOkS0 | trivial) oln))) (hS_sub (a := so w) rfl)) ?_ | refine awp_seq (awp_seq (awp_seq (awp_loop' (fun n_ s => ∃ (k : Nat), ∃ (hn : n_ + k = 4), s = mkSt 29 [(1, .box 5 (IsLens.whole WrldS)), (2, .box 6 (IsLens.whole WrldS)), (3, .v (k : Int))] [(1, .arr (((w.nodes.take k).map (fun n => enterF n (min (w.epoch + 1) 30)) ++ w.nodes.drop k).map sN)), (5, .cell (sW (tickF w))), (6, .cell WrldS.zero)]) (4) ⟨0, by omega, rfl⟩ (Le.mk rfl (tlb rfl rfl rfl (tlb rfl rfl rfl (tle rfl (rfl) rfl tln))) (olk (by first | rfl | (exact congrArg Obj.arr (hnext _))) (by first | exact obOk_cell | exact obOk_arr | exact obOkW rfl | exact obOkW0 | exact obOkN | exact obOkS rfl | exact obOkNs | exact obOkS0 | trivial) (olk rfl (by first | exact obOk_cell | exact obOk_arr | exact obOkW rfl | exact obOkW0 | exact obOkN | exact obOkS rfl | exact obOkNs | exact obOkS0 | trivial) (olk rfl (by first | exact obOk_cell | exact obOk_arr | exact obOkW rfl | exact obOkW0 | exact obOkN | exact obOkS rfl | exact obOkNs | exact obOkS0 | trivial) oln))) (hS_sub (a := so w) rfl)) ?_)))
  rintro n_ s ⟨k, hn, rfl⟩
  have hlen : (((w.nodes.take k).map (fun n => enterF n (min (w.epoch + 1) 30)) ++ w.nodes.drop k).map sN).length = 4 := by simp; omega
  all_goals first | refine awp_seq (awp_region (id := 3) ?_) | refine awp_seq (awp_seq (awp_region (id := 3) ?_)) | refine awp_region (id := 3) ?_ | refine awp_seq (awp_seq (awp_seq (awp_region (id := 3) ?_)))
  all_goals first | refine awpOps_cons (op_mv rfl (Conv.of rfl) rfl) ?_ | refine awpOps_cons (op_mvl rfl rfl rfl rfl) ?_ | refine awpOps_cons (op_mvo rfl rfl rfl rfl) ?_
  all_goals first | refine awpOps_cons (op_fab f61_1_WrldS rfl rfl) ?_ | refine awpOps_cons (op_far f61_1_WrldS rfl rfl) ?_ | refine awpOps_cons (op_fae f61_1_WrldS rfl rfl) ?_
  all_goals first | refine awpOps_cons (op_ld ty59_NRef rfl rfl rfl) ?_ | refine awpOps_cons (op_ldr ty59_NRef rfl rfl) ?_ | refine awpOps_cons (op_lde ty59_NRef rfl rfl (by assumption) rfl) ?_ | refine awpOps_cons (op_ldl ty59_NRef rfl rfl rfl) ?_ | refine awpOps_cons (op_ldd ty59_NRef rfl rfl rfl) ?_ | refine awpOps_cons (op_ldde ty59_NRef rfl rfl (by assumption) rfl) ?_
  all_goals first | refine awpOps_cons (op_len sl59_NodS rfl rfl) ?_ | refine awpOps_cons (op_lenA sl59_NodS rfl rfl rfl) ?_
  all_goals refine awpOps_cons (op_lss rfl rfl rfl) ?_
  all_goals refine awpOps_nil ?_
  first | refine awp_seq (awp_cond rfl (fun h => ?_) (fun h => ?_)) | refine awp_seq (awp_seq (awp_cond rfl (fun h => ?_) (fun h => ?_))) | refine awp_cond rfl (fun h => ?_) (fun h => ?_) | refine awp_seq (awp_seq (awp_seq (awp_cond rfl (fun h => ?_) (fun h => ?_))))
  · have hlt : k < 4 := by rw [hlen] at h; simp at h; omega
    have hx : w.nodes[k]? = some w.nodes[k] := List.getElem?_eq_getElem (by omega)
    have hx' : (((w.nodes.take k).map (fun n => enterF n (min (w.epoch + 1) 30)) ++ w.nodes.drop k).map sN)[(k : Int).toNat]? = some (sN w.nodes[k]) := by
      rw [List.getElem?_map, List.getElem?_append_right (by simp; omega)]
      simp [Nat.min_eq_left (show k ≤ w.nodes.length by omega), hx]
    have hne := hw.nep _ (List.getElem_mem (show k < w.nodes.length by omega))
    have hy : ∀ y : NodS, ((((w.nodes.take k).map (fun n => enterF n (min (w.epoch + 1) 30)) ++ w.nodes.drop k).map sN).set (k : Int).toNat y)[(k : Int).toNat]? = some y := fun y => by
      rw [List.getElem?_set_self (by rw [hlen]; omega)]
    have hnext : ∀ y : NodS, ((((w.nodes.take k).map (fun n => enterF n (min (w.epoch + 1) 30)) ++ w.nodes.drop k).map sN).set (k : Int).toNat y).set (k : Int).toNat (sN (enterF w.nodes[k] (min (w.epoch + 1) 30))) = ((w.nodes.take (k + 1)).map (fun n => enterF n (min (w.epoch + 1) 30)) ++ w.nodes.drop (k + 1)).map sN := fun y => by
      rw [set_sN]
      exact congrArg _ (tick_step hx).symm
    refine awp_skip ?_
    first | refine awp_seq (awp_block ?_) | refine awp_seq (awp_seq (awp_block ?_)) | refine awp_block ?_ | refine awp_seq (awp_seq (awp_seq (awp_block ?_)))
    all_goals first | refine awp_seq (dr_start (id := 5) ?_) | refine awp_seq (awp_seq (dr_start (id := 5) ?_)) | refine dr_start (id := 5) ?_ | refine awp_seq (awp_seq (awp_seq (dr_start (id := 5) ?_)))
    all_goals first | refine dr_cons (op_fab f61_1_WrldS rfl rfl) ?_ | refine dr_cons (op_far f61_1_WrldS rfl rfl) ?_ | refine dr_cons (op_fae f61_1_WrldS rfl rfl) ?_
    all_goals first | refine dr_cons (op_ld ty59_NRef rfl rfl rfl) ?_ | refine dr_cons (op_ldr ty59_NRef rfl rfl) ?_ | refine dr_cons (op_lde ty59_NRef rfl rfl (by assumption) rfl) ?_ | refine dr_cons (op_ldl ty59_NRef rfl rfl rfl) ?_ | refine dr_cons (op_ldd ty59_NRef rfl rfl rfl) ?_ | refine dr_cons (op_ldde ty59_NRef rfl rfl (by assumption) rfl) ?_
    all_goals first | refine dr_cons (op_mv rfl (Conv.of rfl) rfl) ?_ | refine dr_cons (op_mvl rfl rfl rfl rfl) ?_ | refine dr_cons (op_mvo rfl rfl rfl rfl) ?_
    all_goals first | refine dr_cons (op_fab f61_1_WrldS rfl rfl) ?_ | refine dr_cons (op_far f61_1_WrldS rfl rfl) ?_ | refine dr_cons (op_fae f61_1_WrldS rfl rfl) ?_
    all_goals first | refine dr_cons (op_ld ty59_NRef rfl rfl rfl) ?_ | refine dr_cons (op_ldr ty59_NRef rfl rfl) ?_ | refine dr_cons (op_lde ty59_NRef rfl rfl (by assumption) rfl) ?_ | refine dr_cons (op_ldl ty59_NRef rfl rfl rfl) ?_ | refine dr_cons (op_ldd ty59_NRef rfl rfl rfl) ?_ | refine dr_cons (op_ldde ty59_NRef rfl rfl (by assumption) rfl) ?_
    all_goals first | refine dr_cons (op_mv rfl (Conv.of rfl) rfl) ?_ | refine dr_cons (op_mvl rfl rfl rfl rfl) ?_ | refine dr_cons (op_mvo rfl rfl rfl rfl) ?_
    all_goals first | refine dr_cons (op_ix sl59_NodS rfl rfl rfl (by omega) (by assumption)) ?_ | refine dr_cons (op_ixA sl59_NodS rfl rfl rfl rfl ⟨by omega, by omega⟩) ?_
    all_goals first | refine dr_cons (op_ld ty25_NodS rfl rfl rfl) ?_ | refine dr_cons (op_ldr ty25_NodS rfl rfl) ?_ | refine dr_cons (op_lde ty25_NodS rfl rfl hx' rfl) ?_ | refine dr_cons (op_ldm ty25_NodS rfl rfl rfl) ?_ | refine dr_cons (op_ldme ty25_NodS rfl rfl hx' rfl) ?_
    all_goals first | refine dr_cons (op_fab f61_0_WrldS rfl rfl) ?_ | refine dr_cons (op_far f61_0_WrldS rfl rfl) ?_ | refine dr_cons (op_fae f61_0_WrldS rfl rfl) ?_
    all_goals first | refine dr_cons (op_ld ty3 rfl rfl rfl) ?_ | refine dr_cons (op_ldr ty3 rfl rfl) ?_ | refine dr_cons (op_lde ty3 rfl rfl (by assumption) rfl) ?_ | refine dr_cons (op_ldl ty3 rfl rfl rfl) ?_ | refine dr_cons (op_ldd ty3 rfl rfl rfl) ?_ | refine dr_cons (op_ldde ty3 rfl rfl (by assumption) rfl) ?_
    all_goals refine dr_cons (op_callM (s := 23) (ol := []) (ol' := []) (pre := []) fb34 (.nil _) rfl (.cons rfl (Conv.of rfl) (.nil _)) (l12Enter_ct _ _ hne) ols0 oks0 oks0 rfl argO0 (argOk' rfl rfl argO0) (fun o ho => absurd (show o ∈ ([] : List Nat) from ho) (by simp)) (fun o ho => absurd (show o ∈ ([] : List Nat) from ho) (by simp)) rfl) ?_
    all_goals first | refine dr_cons (op_ix sl59_NodS rfl rfl rfl (by omega) (by assumption)) ?_ | refine dr_cons (op_ixA sl59_NodS rfl rfl rfl rfl ⟨by omega, by rw [List.length_set]; omega⟩) ?_
    all_goals first | refine dr_cons (op_st ty25_NodS rfl rfl (Conv.of rfl) rfl) ?_ | refine dr_cons (op_ste ty25_NodS rfl rfl (Conv.of rfl) rfl (hy _)) ?_ | refine dr_cons (op_stm ty25_NodS rfl rfl rfl) ?_ | refine dr_cons (op_stme ty25_NodS rfl rfl rfl (hy _)) ?_
    all_goals refine dr_nil mixed rfl ?_
    all_goals first | refine awp_seq (awp_region (id := 4) ?_) | refine awp_seq (awp_seq (awp_region (id := 4) ?_)) | refine awp_region (id := 4) ?_ | refine awp_seq (awp_seq (awp_seq (awp_region (id := 4) ?_)))
    all_goals first | refine awpOps_cons (op_mv rfl (Conv.of rfl) rfl) ?_ | refine awpOps_cons (op_mvl rfl rfl rfl rfl) ?_ | refine awpOps_cons (op_mvo rfl rfl rfl rfl) ?_
    all_goals refine awpOps_cons (op_add rfl rfl rfl (by omega)) ?_
    all_goals first | refine awpOps_cons (op_as rfl (Conv.of rfl) rfl) ?_ | refine awpOps_cons (op_asl rfl rfl rfl rfl) ?_ | refine awpOps_cons (op_aso rfl rfl rfl rfl) ?_
    all_goals refine awpOps_nil ?_
    repeat first | refine nx_seq ?_ | refine nx_block ?_
    exact ⟨n_ - 1, _, by omega, ⟨k + 1, by omega, rfl⟩, Le.mk rfl (tlb rfl rfl rfl (tlb rfl rfl rfl (tle rfl (rfl) rfl tln))) (olk (by first | rfl | (exact congrArg Obj.arr (hnext _))) (by first | exact obOk_cell | exact obOk_arr | exact obOkW rfl | exact obOkW0 | exact obOkN | exact obOkS rfl | exact obOkNs | exact obOkS0 | trivial) (olk rfl (by first | exact obOk_cell | exact obOk_arr | exact obOkW rfl | exact obOkW0 | exact obOkN | exact obOkS rfl | exact obOkNs | exact obOkS0 | trivial) (olk rfl (by first | exact obOk_cell | exact obOk_arr | exact obOkW rfl | exact obOkW0 | exact obOkN | exact obOkS rfl | exact obOkNs | exact obOkS0 | trivial) oln))) (hS_sub (a := so w) rfl)⟩
  · refine awp_exit ?_
    repeat refine ex_seq ?_
    refine ex_block ?_
    have hk : k = 4 := by rw [hlen] at h; simp at h; omega
    subst hk
    all_goals first | refine awp_seq (awp_region (id := 6) ?_) | refine awp_seq (awp_seq (awp_region (id := 6) ?_)) | refine awp_region (id := 6) ?_ | refine awp_seq (awp_seq (awp_seq (awp_region (id := 6) ?_)))
    all_goals first | refine awpOps_cons (op_ld ty61_WrldS rfl rfl rfl) ?_ | refine awpOps_cons (op_ldr ty61_WrldS rfl rfl) ?_ | refine awpOps_cons (op_lde ty61_WrldS rfl rfl (by assumption) rfl) ?_ | refine awpOps_cons (op_ldm ty61_WrldS rfl rfl rfl) ?_ | refine awpOps_cons (op_ldme ty61_WrldS rfl rfl (by assumption) rfl) ?_
    all_goals first | refine awpOps_cons (op_st ty61_WrldS rfl rfl (Conv.of rfl) rfl) ?_ | refine awpOps_cons (op_ste ty61_WrldS rfl rfl (Conv.of rfl) rfl (by assumption)) ?_ | refine awpOps_cons (op_stm ty61_WrldS rfl rfl rfl) ?_ | refine awpOps_cons (op_stme ty61_WrldS rfl rfl rfl (by assumption)) ?_
    all_goals refine awpOps_nil ?_
    refine awp_ret ?_
    repeat first | refine rt_seq ?_ | refine rt_block ?_
    refine ⟨_, _, res1C (ol := [(1, .arr _)]) ty61_WrldS rfl rfl (inOne rfl) (olk rfl obOkNs oln) (hS_sub rfl), rfl, ?_⟩
    exact congrArg (fun z => obs [(1, Wt.Obj.arr z)]) (by rw [take_end (by omega), drop_end (by omega), List.append_nil]; rfl)
set_option maxHeartbeats 1000000 in
theorem l21Do_ct (w : Wrld) (e : Evt) (hw : FineX w) : CtO Try.prog 93 [.v (sW w), .v e] (so w) (.v (sW (doF w e))) (so (doF w e)) := by
  refine Ct.intro Try.func93 rfl rfl ?_
  all_goals first | refine awp_seq (awp_region (id := 0) ?_) | refine awp_seq (awp_seq (awp_region (id := 0) ?_)) | refine awp_region (id := 0) ?_ | refine awp_seq (awp_seq (awp_seq (awp_region (id := 0) ?_)))
  all_goals first | refine awpOps_cons (op_box (o := 5) ty61_WrldS rfl (Conv.of rfl) rfl rfl) ?_ | refine awpOps_cons (op_boxm (o := 5) ty61_WrldS rfl rfl rfl rfl) ?_
  all_goals first | refine awpOps_cons (op_box (o := 6) ty110 rfl (Conv.of rfl) rfl rfl) ?_ | refine awpOps_cons (op_boxm (o := 6) ty110 rfl rfl rfl rfl) ?_
  all_goals refine awpOps_cons (op_alloc (o := 7) z61_WrldS rfl rfl) ?_
  all_goals refine awpOps_nil ?_
  all_goals first | refine awp_seq (awp_region (id := 1) ?_) | refine awp_seq (awp_seq (awp_region (id := 1) ?_)) | refine awp_region (id := 1) ?_ | refine awp_seq (awp_seq (awp_seq (awp_region (id := 1) ?_)))
  all_goals first | refine awpOps_cons (op_fab f110_0 rfl rfl) ?_ | refine awpOps_cons (op_far f110_0 rfl rfl) ?_ | refine awpOps_cons (op_fae f110_0 rfl rfl) ?_
  all_goals first | refine awpOps_cons (op_ld ty3 rfl rfl rfl) ?_ | refine awpOps_cons (op_ldr ty3 rfl rfl) ?_ | refine awpOps_cons (op_lde ty3 rfl rfl (by assumption) rfl) ?_ | refine awpOps_cons (op_ldl ty3 rfl rfl rfl) ?_ | refine awpOps_cons (op_ldd ty3 rfl rfl rfl) ?_ | refine awpOps_cons (op_ldde ty3 rfl rfl (by assumption) rfl) ?_
  all_goals refine awpOps_nil ?_
  first | refine awp_seq (awp_block ?_) | refine awp_seq (awp_seq (awp_block ?_)) | refine awp_block ?_ | refine awp_seq (awp_seq (awp_seq (awp_block ?_)))
  all_goals first | refine awp_seq (awp_region (id := 2) ?_) | refine awp_seq (awp_seq (awp_region (id := 2) ?_)) | refine awp_region (id := 2) ?_ | refine awp_seq (awp_seq (awp_seq (awp_region (id := 2) ?_)))
  all_goals refine awpOps_cons (op_eql rfl rfl rfl) ?_
  all_goals first | refine awpOps_cons (op_as rfl (Conv.of rfl) rfl) ?_ | refine awpOps_cons (op_asl rfl rfl rfl rfl) ?_ | refine awpOps_cons (op_aso rfl rfl rfl rfl) ?_
  all_goals refine awpOps_nil ?_
  first | refine awp_seq (awp_cond rfl (fun h1 => ?_) (fun h1 => ?_)) | refine awp_seq (awp_seq (awp_cond rfl (fun h1 => ?_) (fun h1 => ?_))) | refine awp_cond rfl (fun h1 => ?_) (fun h1 => ?_) | refine awp_seq (awp_seq (awp_seq (awp_cond rfl (fun h1 => ?_) (fun h1 => ?_))))
  · have k1 : e.kind = 1 := by simpa using h1
    all_goals first | refine awp_seq (awp_region (id := 3) ?_) | refine awp_seq (awp_seq (awp_region (id := 3) ?_)) | refine awp_region (id := 3) ?_ | refine awp_seq (awp_seq (awp_seq (awp_region (id := 3) ?_)))
    all_goals first | refine awpOps_cons (op_ld ty61_WrldS rfl rfl rfl) ?_ | refine awpOps_cons (op_ldr ty61_WrldS rfl rfl) ?_ | refine awpOps_cons (op_lde ty61_WrldS rfl rfl (by assumption) rfl) ?_ | refine awpOps_cons (op_ldm ty61_WrldS rfl rfl rfl) ?_ | refine awpOps_cons (op_ldme ty61_WrldS rfl rfl (by assumption) rfl) ?_
    all_goals refine awpOps_cons (op_callM (s := 9) (pre := []) fb116 (.nil _) rfl (.nil _) (l21Tick_ct w hw.fine) (olsk rfl ols0) (oksk (by first | exact obOk_cell | exact obOk_arr | exact obOkW rfl | exact obOkW0 | exact obOkN | exact obOkS rfl | exact obOkNs | exact obOkS0 | trivial) oks0) (oksk (by first | exact obOk_cell | exact obOk_arr | exact obOkW rfl | exact obOkW0 | exact obOkN | exact obOkS rfl | exact obOkNs | exact obOkS0 | trivial) oks0) rfl argO0 argO0 (inOne rfl) (inOne rfl) rfl) ?_
    all_goals first | refine awpOps_cons (op_st ty61_WrldS rfl rfl (Conv.of rfl) rfl) ?_ | refine awpOps_cons (op_ste ty61_WrldS rfl rfl (Conv.of rfl) rfl (by assumption)) ?_ | refine awpOps_cons (op_stm ty61_WrldS rfl rfl rfl) ?_ | refine awpOps_cons (op_stme ty61_WrldS rfl rfl rfl (by assumption)) ?_
    all_goals refine awpOps_nil ?_
    refine awp_ret ?_
    repeat first | refine rt_seq ?_ | refine rt_block ?_
    refine ⟨_, _, res1C (ol := so (tickF w)) ty61_WrldS rfl rfl (inOne rfl) (olk rfl obOkNs oln) (hS_sub rfl), ?_, ?_⟩ <;> rw [doF, if_pos k1]
  · have k1 : ¬ e.kind = 1 := by simpa using h1
    all_goals first | refine awp_seq (awp_region (id := 4) ?_) | refine awp_seq (awp_seq (awp_region (id := 4) ?_)) | refine awp_region (id := 4) ?_ | refine awp_seq (awp_seq (awp_seq (awp_region (id := 4) ?_)))
    all_goals refine awpOps_cons (op_eql rfl rfl rfl) ?_
    all_goals first | refine awpOps_cons (op_as rfl (Conv.of rfl) rfl) ?_ | refine awpOps_cons (op_asl rfl rfl rfl rfl) ?_ | refine awpOps_cons (op_aso rfl rfl rfl rfl) ?_
    all_goals refine awpOps_nil ?_
    first | refine awp_seq (awp_cond rfl (fun h2 => ?_) (fun h2 => ?_)) | refine awp_seq (awp_seq (awp_cond rfl (fun h2 => ?_) (fun h2 => ?_))) | refine awp_cond rfl (fun h2 => ?_) (fun h2 => ?_) | refine awp_seq (awp_seq (awp_seq (awp_cond rfl (fun h2 => ?_) (fun h2 => ?_))))
    · have k2 : e.kind = 2 := by simpa using h2
      all_goals first | refine awp_seq (awp_region (id := 5) ?_) | refine awp_seq (awp_seq (awp_region (id := 5) ?_)) | refine awp_region (id := 5) ?_ | refine awp_seq (awp_seq (awp_seq (awp_region (id := 5) ?_)))
      all_goals first | refine awpOps_cons (op_ld ty61_WrldS rfl rfl rfl) ?_ | refine awpOps_cons (op_ldr ty61_WrldS rfl rfl) ?_ | refine awpOps_cons (op_lde ty61_WrldS rfl rfl (by assumption) rfl) ?_ | refine awpOps_cons (op_ldm ty61_WrldS rfl rfl rfl) ?_ | refine awpOps_cons (op_ldme ty61_WrldS rfl rfl (by assumption) rfl) ?_
      all_goals first | refine awpOps_cons (op_fab f110_1 rfl rfl) ?_ | refine awpOps_cons (op_far f110_1 rfl rfl) ?_ | refine awpOps_cons (op_fae f110_1 rfl rfl) ?_
      all_goals first | refine awpOps_cons (op_ld ty3 rfl rfl rfl) ?_ | refine awpOps_cons (op_ldr ty3 rfl rfl) ?_ | refine awpOps_cons (op_lde ty3 rfl rfl (by assumption) rfl) ?_ | refine awpOps_cons (op_ldl ty3 rfl rfl rfl) ?_ | refine awpOps_cons (op_ldd ty3 rfl rfl rfl) ?_ | refine awpOps_cons (op_ldde ty3 rfl rfl (by assumption) rfl) ?_
      all_goals first | refine awpOps_cons (op_fab f110_3 rfl rfl) ?_ | refine awpOps_cons (op_far f110_3 rfl rfl) ?_ | refine awpOps_cons (op_fae f110_3 rfl rfl) ?_
      all_goals first | refine awpOps_cons (op_ld ty36 rfl rfl rfl) ?_ | refine awpOps_cons (op_ldr ty36 rfl rfl) ?_ | refine awpOps_cons (op_lde ty36 rfl rfl (by assumption) rfl) ?_ | refine awpOps_cons (op_ldl ty36 rfl rfl rfl) ?_ | refine awpOps_cons (op_ldd ty36 rfl rfl rfl) ?_ | refine awpOps_cons (op_ldde ty36 rfl rfl (by assumption) rfl) ?_
      all_goals refine awpOps_cons (op_callM (s := 13) (pre := []) fb117 (.nil _) rfl (.cons rfl (Conv.of rfl) (.cons rfl (Conv.of rfl) (.nil _))) (l21Propose_ct w _ _ hw) (olsk rfl ols0) (oksk (by first | exact obOk_cell | exact obOk_arr | exact obOkW rfl | exact obOkW0 | exact obOkN | exact obOkS rfl | exact obOkNs | exact obOkS0 | trivial) oks0) (oksk (by first | exact obOk_cell | exact obOk_arr | exact obOkW rfl | exact obOkW0 | exact obOkN | exact obOkS rfl | exact obOkNs | exact obOkS0 | trivial) oks0) rfl argO0 (argOk' rfl rfl (argOk' rfl rfl argO0)) (inOne rfl) (inOne rfl) rfl) ?_
      all_goals first | refine awpOps_cons (op_st ty61_WrldS rfl rfl (Conv.of rfl) rfl) ?_ | refine awpOps_cons (op_ste ty61_WrldS rfl rfl (Conv.of rfl) rfl (by assumption)) ?_ | refine awpOps_cons (op_stm ty61_WrldS rfl rfl rfl) ?_ | refine awpOps_cons (op_stme ty61_WrldS rfl rfl rfl (by assumption)) ?_
      all_goals refine awpOps_nil ?_
      refine awp_ret ?_
      repeat first | refine rt_seq ?_ | refine rt_block ?_
      refine ⟨_, _, res1C (ol := so (wproposeF w e.a e.pay)) ty61_WrldS rfl rfl (inOne rfl) (olk rfl obOkNs oln) (hS_sub rfl), ?_, ?_⟩ <;> rw [doF, if_neg k1, if_pos k2]
    · have k2 : ¬ e.kind = 2 := by simpa using h2
      all_goals first | refine awp_seq (awp_region (id := 6) ?_) | refine awp_seq (awp_seq (awp_region (id := 6) ?_)) | refine awp_region (id := 6) ?_ | refine awp_seq (awp_seq (awp_seq (awp_region (id := 6) ?_)))
      all_goals refine awpOps_cons (op_eql rfl rfl rfl) ?_
      all_goals first | refine awpOps_cons (op_as rfl (Conv.of rfl) rfl) ?_ | refine awpOps_cons (op_asl rfl rfl rfl rfl) ?_ | refine awpOps_cons (op_aso rfl rfl rfl rfl) ?_
      all_goals refine awpOps_nil ?_
      first | refine awp_seq (awp_cond rfl (fun h3 => ?_) (fun h3 => ?_)) | refine awp_seq (awp_seq (awp_cond rfl (fun h3 => ?_) (fun h3 => ?_))) | refine awp_cond rfl (fun h3 => ?_) (fun h3 => ?_) | refine awp_seq (awp_seq (awp_seq (awp_cond rfl (fun h3 => ?_) (fun h3 => ?_))))
      · have k3 : e.kind = 3 := by simpa using h3
        all_goals first | refine awp_seq (awp_region (id := 7) ?_) | refine awp_seq (awp_seq (awp_region (id := 7) ?_)) | refine awp_region (id := 7) ?_ | refine awp_seq (awp_seq (awp_seq (awp_region (id := 7) ?_)))
        all_goals first | refine awpOps_cons (op_ld ty61_WrldS rfl rfl rfl) ?_ | refine awpOps_cons (op_ldr ty61_WrldS rfl rfl) ?_ | refine awpOps_cons (op_lde ty61_WrldS rfl rfl (by assumption) rfl) ?_ | refine awpOps_cons (op_ldm ty61_WrldS rfl rfl rfl) ?_ | refine awpOps_cons (op_ldme ty61_WrldS rfl rfl (by assumption) rfl) ?_
        all_goals first | refine awpOps_cons (op_fab f110_1 rfl rfl) ?_ | refine awpOps_cons (op_far f110_1 rfl rfl) ?_ | refine awpOps_cons (op_fae f110_1 rfl rfl) ?_
        all_goals first | refine awpOps_cons (op_ld ty3 rfl rfl rfl) ?_ | refine awpOps_cons (op_ldr ty3 rfl rfl) ?_ | refine awpOps_cons (op_lde ty3 rfl rfl (by assumption) rfl) ?_ | refine awpOps_cons (op_ldl ty3 rfl rfl rfl) ?_ | refine awpOps_cons (op_ldd ty3 rfl rfl rfl) ?_ | refine awpOps_cons (op_ldde ty3 rfl rfl (by assumption) rfl) ?_
        all_goals first | refine awpOps_cons (op_fab f110_2 rfl rfl) ?_ | refine awpOps_cons (op_far f110_2 rfl rfl) ?_ | refine awpOps_cons (op_fae f110_2 rfl rfl) ?_
        all_goals first | refine awpOps_cons (op_ld ty3 rfl rfl rfl) ?_ | refine awpOps_cons (op_ldr ty3 rfl rfl) ?_ | refine awpOps_cons (op_lde ty3 rfl rfl (by assumption) rfl) ?_ | refine awpOps_cons (op_ldl ty3 rfl rfl rfl) ?_ | refine awpOps_cons (op_ldd ty3 rfl rfl rfl) ?_ | refine awpOps_cons (op_ldde ty3 rfl rfl (by assumption) rfl) ?_
        all_goals refine awpOps_cons (op_callM (s := 21) (pre := []) fb118 (.nil _) rfl (.cons rfl (Conv.of rfl) (.cons rfl (Conv.of rfl) (.nil _))) (l21Bring_ct w _ _ hw) (olsk rfl ols0) (oksk (by first | exact obOk_cell | exact obOk_arr | exact obOkW rfl | exact obOkW0 | exact obOkN | exact obOkS rfl | exact obOkNs | exact obOkS0 | trivial) oks0) (oksk (by first | exact obOk_cell | exact obOk_arr | exact obOkW rfl | exact obOkW0 | exact obOkN | exact obOkS rfl | exact obOkNs | exact obOkS0 | trivial) oks0) rfl argO0 (argOk' rfl rfl (argOk' rfl rfl argO0)) (inOne rfl) (inOne rfl) rfl) ?_
        all_goals first | refine awpOps_cons (op_st ty61_WrldS rfl rfl (Conv.of rfl) rfl) ?_ | refine awpOps_cons (op_ste ty61_WrldS rfl rfl (Conv.of rfl) rfl (by assumption)) ?_ | refine awpOps_cons (op_stm ty61_WrldS rfl rfl rfl) ?_ | refine awpOps_cons (op_stme ty61_WrldS rfl rfl rfl (by assumption)) ?_
        all_goals refine awpOps_nil ?_
        refine awp_ret ?_
        repeat first | refine rt_seq ?_ | refine rt_block ?_
        refine ⟨_, _, res1C (ol := so (wbringF w e.a e.b)) ty61_WrldS rfl rfl (inOne rfl) (olk rfl obOkNs oln) (hS_sub rfl), ?_, ?_⟩ <;> rw [doF, if_neg k1, if_neg k2, if_pos k3]
      · have k3 : ¬ e.kind = 3 := by simpa using h3
        all_goals first | refine awp_seq (awp_region (id := 8) ?_) | refine awp_seq (awp_seq (awp_region (id := 8) ?_)) | refine awp_region (id := 8) ?_ | refine awp_seq (awp_seq (awp_seq (awp_region (id := 8) ?_)))
        all_goals refine awpOps_cons (op_eql rfl rfl rfl) ?_
        all_goals first | refine awpOps_cons (op_as rfl (Conv.of rfl) rfl) ?_ | refine awpOps_cons (op_asl rfl rfl rfl rfl) ?_ | refine awpOps_cons (op_aso rfl rfl rfl rfl) ?_
        all_goals refine awpOps_nil ?_
        first | refine awp_seq (awp_cond rfl (fun h4 => ?_) (fun h4 => ?_)) | refine awp_seq (awp_seq (awp_cond rfl (fun h4 => ?_) (fun h4 => ?_))) | refine awp_cond rfl (fun h4 => ?_) (fun h4 => ?_) | refine awp_seq (awp_seq (awp_seq (awp_cond rfl (fun h4 => ?_) (fun h4 => ?_))))
        · have k4 : e.kind = 4 := by simpa using h4
          first | refine awp_seq (awp_seq (awp_seq (awp_seq_to (s' := mkSt 45 [(2, .box 5 (IsLens.whole WrldS)), (3, .box 6 (IsLens.whole Evt)), (4, .box 7 (IsLens.whole WrldS)), (39, .v (voteOk e.vote && decide (e.vote.by_ = w.bad)))] [(1, .arr (w.nodes.map sN)), (5, .cell (sW w)), (6, .cell e), (7, .cell WrldS.zero)]) ?_ ?_))) | refine awp_seq (awp_seq (awp_seq_to (s' := mkSt 45 [(2, .box 5 (IsLens.whole WrldS)), (3, .box 6 (IsLens.whole Evt)), (4, .box 7 (IsLens.whole WrldS)), (39, .v (voteOk e.vote && decide (e.vote.by_ = w.bad)))] [(1, .arr (w.nodes.map sN)), (5, .cell (sW w)), (6, .cell e), (7, .cell WrldS.zero)]) ?_ ?_)) | refine awp_seq (awp_seq_to (s' := mkSt 45 [(2, .box 5 (IsLens.whole WrldS)), (3, .box 6 (IsLens.whole Evt)), (4, .box 7 (IsLens.whole WrldS)), (39, .v (voteOk e.vote && decide (e.vote.by_ = w.bad)))] [(1, .arr (w.nodes.map sN)), (5, .cell (sW w)), (6, .cell e), (7, .cell WrldS.zero)]) ?_ ?_) | refine awp_seq_to (s' := mkSt 45 [(2, .box 5 (IsLens.whole WrldS)), (3, .box 6 (IsLens.whole Evt)), (4, .box 7 (IsLens.whole WrldS)), (39, .v (voteOk e.vote && decide (e.vote.by_ = w.bad)))] [(1, .arr (w.nodes.map sN)), (5, .cell (sW w)), (6, .cell e), (7, .cell WrldS.zero)]) ?_ ?_ | refine awp_toB (s' := mkSt 45 [(2, .box 5 (IsLens.whole WrldS)), (3, .box 6 (IsLens.whole Evt)), (4, .box 7 (IsLens.whole WrldS)), (39, .v (voteOk e.vote && decide (e.vote.by_ = w.bad)))] [(1, .arr (w.nodes.map sN)), (5, .cell (sW w)), (6, .cell e), (7, .cell WrldS.zero)]) ?_ ?_ | refine awp_to (s' := mkSt 45 [(2, .box 5 (IsLens.whole WrldS)), (3, .box 6 (IsLens.whole Evt)), (4, .box 7 (IsLens.whole WrldS)), (39, .v (voteOk e.vote && decide (e.vote.by_ = w.bad)))] [(1, .arr (w.nodes.map sN)), (5, .cell (sW w)), (6, .cell e), (7, .cell WrldS.zero)]) ?_ ?_
          · all_goals first | refine awp_seq (awp_region (id := 9) ?_) | refine awp_seq (awp_seq (awp_region (id := 9) ?_)) | refine awp_region (id := 9) ?_ | refine awp_seq (awp_seq (awp_seq (awp_region (id := 9) ?_)))
            all_goals first | refine awpOps_cons (op_fab f110_4 rfl rfl) ?_ | refine awpOps_cons (op_far f110_4 rfl rfl) ?_ | refine awpOps_cons (op_fae f110_4 rfl rfl) ?_
            all_goals first | refine awpOps_cons (op_ld ty28 rfl rfl rfl) ?_ | refine awpOps_cons (op_ldr ty28 rfl rfl) ?_ | refine awpOps_cons (op_lde ty28 rfl rfl (by assumption) rfl) ?_ | refine awpOps_cons (op_ldl ty28 rfl rfl rfl) ?_ | refine awpOps_cons (op_ldd ty28 rfl rfl rfl) ?_ | refine awpOps_cons (op_ldde ty28 rfl rfl (by assumption) rfl) ?_
            all_goals refine awpOps_cons (op_call fb66 (.cons rfl (Conv.of rfl) (.nil _)) (l3Vote_ct _) (argOk rfl rfl argOk0) rfl rfl) ?_
            all_goals first | refine awpOps_cons (op_mv rfl (Conv.of rfl) rfl) ?_ | refine awpOps_cons (op_mvl rfl rfl rfl rfl) ?_ | refine awpOps_cons (op_mvo rfl rfl rfl rfl) ?_
            all_goals first | refine g_lit (t := 32) (b := true) rfl ?_ | refine g_lit (t := 32) (b := false) rfl ?_ | refine g_ulit (t := 32) rfl ?_ | refine g_split (t := 32) rfl (fun h => ?_) (fun h => ?_)
            all_goals first | refine awpOps_cons (g_off rfl rfl rfl rfl rfl) ?_ | refine awpOps_cons (g_und rfl rfl rfl) ?_ | refine awpOps_cons (g_on rfl rfl rfl (op_fab f110_4 rfl rfl)) ?_ | refine awpOps_cons (g_on rfl rfl rfl (op_far f110_4 rfl rfl)) ?_ | refine awpOps_cons (g_on rfl rfl rfl (op_fae f110_4 rfl rfl)) ?_
            all_goals first | refine awpOps_cons (g_off rfl rfl rfl rfl rfl) ?_ | refine awpOps_cons (g_und rfl rfl rfl) ?_ | refine awpOps_cons (g_on rfl rfl rfl (op_fab f28_0 rfl rfl)) ?_ | refine awpOps_cons (g_on rfl rfl rfl (op_far f28_0 rfl rfl)) ?_ | refine awpOps_cons (g_on rfl rfl rfl (op_fae f28_0 rfl rfl)) ?_
            all_goals first | refine awpOps_cons (g_off rfl rfl rfl rfl rfl) ?_ | refine awpOps_cons (g_und rfl rfl rfl) ?_ | refine awpOps_cons (g_on rfl rfl rfl (op_ld ty3 rfl rfl rfl)) ?_ | refine awpOps_cons (g_on rfl rfl rfl (op_ldr ty3 rfl rfl)) ?_ | refine awpOps_cons (g_on rfl rfl rfl (op_lde ty3 rfl rfl (by assumption) rfl)) ?_ | refine awpOps_cons (g_on rfl rfl rfl (op_ldl ty3 rfl rfl rfl)) ?_ | refine awpOps_cons (g_on rfl rfl rfl (op_ldd ty3 rfl rfl rfl)) ?_ | refine awpOps_cons (g_on rfl rfl rfl (op_ldde ty3 rfl rfl (by assumption) rfl)) ?_
            all_goals first | refine awpOps_cons (g_off rfl rfl rfl rfl rfl) ?_ | refine awpOps_cons (g_und rfl rfl rfl) ?_ | refine awpOps_cons (g_on rfl rfl rfl (op_fab f61_3_WrldS rfl rfl)) ?_ | refine awpOps_cons (g_on rfl rfl rfl (op_far f61_3_WrldS rfl rfl)) ?_ | refine awpOps_cons (g_on rfl rfl rfl (op_fae f61_3_WrldS rfl rfl)) ?_
            all_goals first | refine awpOps_cons (g_off rfl rfl rfl rfl rfl) ?_ | refine awpOps_cons (g_und rfl rfl rfl) ?_ | refine awpOps_cons (g_on rfl rfl rfl (op_ld ty3 rfl rfl rfl)) ?_ | refine awpOps_cons (g_on rfl rfl rfl (op_ldr ty3 rfl rfl)) ?_ | refine awpOps_cons (g_on rfl rfl rfl (op_lde ty3 rfl rfl (by assumption) rfl)) ?_ | refine awpOps_cons (g_on rfl rfl rfl (op_ldl ty3 rfl rfl rfl)) ?_ | refine awpOps_cons (g_on rfl rfl rfl (op_ldd ty3 rfl rfl rfl)) ?_ | refine awpOps_cons (g_on rfl rfl rfl (op_ldde ty3 rfl rfl (by assumption) rfl)) ?_
            all_goals first | refine awpOps_cons (g_off rfl rfl rfl rfl rfl) ?_ | refine awpOps_cons (g_und rfl rfl rfl) ?_ | refine awpOps_cons (g_on rfl rfl rfl (op_eql rfl rfl rfl)) ?_
            all_goals refine awpOps_cons (op_pick rfl rfl rfl rfl) ?_
            all_goals refine awpOps_nil ?_
            all_goals exact Le.mk rfl (tlb rfl rfl rfl (tlb rfl rfl rfl (tlb rfl rfl rfl (tle rfl (by first | rfl | (clear h1 h2 h3 h4; simp_all [sW]; try (rw [Bool.eq_iff_iff]; simp))) rfl tln)))) (olk rfl (by first | exact obOk_cell | exact obOk_arr | exact obOkW rfl | exact obOkW0 | exact obOkN | exact obOkS rfl | exact obOkNs | exact obOkS0 | trivial) (olk rfl (by first | exact obOk_cell | exact obOk_arr | exact obOkW rfl | exact obOkW0 | exact obOkN | exact obOkS rfl | exact obOkNs | exact obOkS0 | trivial) (olk rfl (by first | exact obOk_cell | exact obOk_arr | exact obOkW rfl | exact obOkW0 | exact obOkN | exact obOkS rfl | exact obOkNs | exact obOkS0 | trivial) (olk rfl (by first | exact obOk_cell | exact obOk_arr | exact obOkW rfl | exact obOkW0 | exact obOkN | exact obOkS rfl | exact obOkNs | exact obOkS0 | trivial) oln)))) (hS_sub (a := so w) rfl)
          first | refine awp_seq (awp_cond rfl (fun h5 => ?_) (fun h5 => ?_)) | refine awp_seq (awp_seq (awp_cond rfl (fun h5 => ?_) (fun h5 => ?_))) | refine awp_cond rfl (fun h5 => ?_) (fun h5 => ?_) | refine awp_seq (awp_seq (awp_seq (awp_cond rfl (fun h5 => ?_) (fun h5 => ?_))))
          · have hvo : voteOk e.vote = true := by simp only [Bool.and_eq_true] at h5; exact h5.1
            all_goals first | refine awp_seq (awp_region (id := 10) ?_) | refine awp_seq (awp_seq (awp_region (id := 10) ?_)) | refine awp_region (id := 10) ?_ | refine awp_seq (awp_seq (awp_seq (awp_region (id := 10) ?_)))
            all_goals first | refine awpOps_cons (op_ld ty61_WrldS rfl rfl rfl) ?_ | refine awpOps_cons (op_ldr ty61_WrldS rfl rfl) ?_ | refine awpOps_cons (op_lde ty61_WrldS rfl rfl (by assumption) rfl) ?_ | refine awpOps_cons (op_ldm ty61_WrldS rfl rfl rfl) ?_ | refine awpOps_cons (op_ldme ty61_WrldS rfl rfl (by assumption) rfl) ?_
            all_goals first | refine awpOps_cons (op_fab f110_4 rfl rfl) ?_ | refine awpOps_cons (op_far f110_4 rfl rfl) ?_ | refine awpOps_cons (op_fae f110_4 rfl rfl) ?_
            all_goals first | refine awpOps_cons (op_ld ty28 rfl rfl rfl) ?_ | refine awpOps_cons (op_ldr ty28 rfl rfl) ?_ | refine awpOps_cons (op_lde ty28 rfl rfl (by assumption) rfl) ?_ | refine awpOps_cons (op_ldl ty28 rfl rfl rfl) ?_ | refine awpOps_cons (op_ldd ty28 rfl rfl rfl) ?_ | refine awpOps_cons (op_ldde ty28 rfl rfl (by assumption) rfl) ?_
            all_goals refine awpOps_cons (op_callM (s := 40) (pre := []) fb119 (.nil _) rfl (.cons rfl (Conv.of rfl) (.cons rfl (Conv.of rfl) (.nil _))) (l21Send_ct w _ true _ hw.fine.log (voteOk_len hvo)) (olsk rfl ols0) (oksk (by first | exact obOk_cell | exact obOk_arr | exact obOkW rfl | exact obOkW0 | exact obOkN | exact obOkS rfl | exact obOkNs | exact obOkS0 | trivial) oks0) (oksk (by first | exact obOk_cell | exact obOk_arr | exact obOkW rfl | exact obOkW0 | exact obOkN | exact obOkS rfl | exact obOkNs | exact obOkS0 | trivial) oks0) rfl argO0 (argOk' rfl rfl (argOk' rfl rfl argO0)) (inOne rfl) (inOne rfl) rfl) ?_
            all_goals first | refine awpOps_cons (op_st ty61_WrldS rfl rfl (Conv.of rfl) rfl) ?_ | refine awpOps_cons (op_ste ty61_WrldS rfl rfl (Conv.of rfl) rfl (by assumption)) ?_ | refine awpOps_cons (op_stm ty61_WrldS rfl rfl rfl) ?_ | refine awpOps_cons (op_stme ty61_WrldS rfl rfl rfl (by assumption)) ?_
            all_goals refine awpOps_nil ?_
            refine awp_ret ?_
            repeat first | refine rt_seq ?_ | refine rt_block ?_
            refine ⟨_, _, res1C (ol := so (sendF w e.vote)) ty61_WrldS rfl rfl (inOne rfl) (olk (congrArg (fun z : List Nod => Wt.Obj.arr (List.map sN z)) (send_nodes w e.vote).symm) obOkNs oln) (hS_sub rfl), ?_, ?_⟩ <;> rw [doF, if_neg k1, if_neg k2, if_neg k3, if_pos k4, h5, if_pos rfl]
          · refine awp_skip ?_
            repeat first | refine nx_seq ?_ | refine nx_block ?_
            all_goals first | refine awp_seq (awp_region (id := 11) ?_) | refine awp_seq (awp_seq (awp_region (id := 11) ?_)) | refine awp_region (id := 11) ?_ | refine awp_seq (awp_seq (awp_seq (awp_region (id := 11) ?_)))
            all_goals first | refine awpOps_cons (op_ld ty61_WrldS rfl rfl rfl) ?_ | refine awpOps_cons (op_ldr ty61_WrldS rfl rfl) ?_ | refine awpOps_cons (op_lde ty61_WrldS rfl rfl (by assumption) rfl) ?_ | refine awpOps_cons (op_ldm ty61_WrldS rfl rfl rfl) ?_ | refine awpOps_cons (op_ldme ty61_WrldS rfl rfl (by assumption) rfl) ?_
            all_goals first | refine awpOps_cons (op_st ty61_WrldS rfl rfl (Conv.of rfl) rfl) ?_ | refine awpOps_cons (op_ste ty61_WrldS rfl rfl (Conv.of rfl) rfl (by assumption)) ?_ | refine awpOps_cons (op_stm ty61_WrldS rfl rfl rfl) ?_ | refine awpOps_cons (op_stme ty61_WrldS rfl rfl rfl (by assumption)) ?_
            all_goals refine awpOps_nil ?_
            refine awp_ret ?_
            repeat first | refine rt_seq ?_ | refine rt_block ?_
            refine ⟨_, _, res1C (ol := so w) ty61_WrldS rfl rfl (inOne rfl) (olk rfl obOkNs oln) (hS_sub rfl), ?_, ?_⟩ <;> rw [doF, if_neg k1, if_neg k2, if_neg k3, if_pos k4, h5, if_neg (by decide)]
        · have k4 : ¬ e.kind = 4 := by simpa using h4
          refine awp_skip ?_
          repeat first | refine nx_seq ?_ | refine nx_block ?_
          all_goals first | refine awp_seq (awp_region (id := 11) ?_) | refine awp_seq (awp_seq (awp_region (id := 11) ?_)) | refine awp_region (id := 11) ?_ | refine awp_seq (awp_seq (awp_seq (awp_region (id := 11) ?_)))
          all_goals first | refine awpOps_cons (op_ld ty61_WrldS rfl rfl rfl) ?_ | refine awpOps_cons (op_ldr ty61_WrldS rfl rfl) ?_ | refine awpOps_cons (op_lde ty61_WrldS rfl rfl (by assumption) rfl) ?_ | refine awpOps_cons (op_ldm ty61_WrldS rfl rfl rfl) ?_ | refine awpOps_cons (op_ldme ty61_WrldS rfl rfl (by assumption) rfl) ?_
          all_goals first | refine awpOps_cons (op_st ty61_WrldS rfl rfl (Conv.of rfl) rfl) ?_ | refine awpOps_cons (op_ste ty61_WrldS rfl rfl (Conv.of rfl) rfl (by assumption)) ?_ | refine awpOps_cons (op_stm ty61_WrldS rfl rfl rfl) ?_ | refine awpOps_cons (op_stme ty61_WrldS rfl rfl rfl (by assumption)) ?_
          all_goals refine awpOps_nil ?_
          refine awp_ret ?_
          repeat first | refine rt_seq ?_ | refine rt_block ?_
          refine ⟨_, _, res1C (ol := so w) ty61_WrldS rfl rfl (inOne rfl) (olk rfl obOkNs oln) (hS_sub rfl), ?_, ?_⟩ <;> rw [doF, if_neg k1, if_neg k2, if_neg k3, if_neg k4]
theorem sWorldNew_w (bad : Int) (hb : within bad 0 4 = true) : Ct Try.prog 92 [.v bad] noObj (fun r1 h1 => r1 = .tup [.v (sW (newW bad)), .v true] ∧ h1 = obs (so (newW bad))) :=
  Ct.obs (sWorldNew_ct bad hb) fun G w ho o => by
    have h1 := ho 1
    have h1' : RelO G w 1 (.arr ([newC 1, newC 2, newC 3, newC 4] : List NodC)) := h1
    by_cases e : o = 1
    · subst e; exact arr_s h1'
    · have := ho o
      simpa [obs, lk0, e, orr] using this
end Go.Proofs.Ytmabpmlcclgecaa

/- What is drawn. -/
set_option linter.unusedVariables false
set_option linter.unusedSimpArgs false
namespace Go.Wt
open Go
def mixV (b : List UInt8) (k : Int) : Int :=
  ((b.getD (k.tmod b.length).toNat 0).toNat : Int) * 131 + ((b.getD ((k * 7 + 3).tmod b.length).toNat 0).toNat : Int) * 1117 + k * 29 + IntKind.i64.wrap (k.tdiv b.length) * 53
/-- A number below `n`. -/
def pickV (b : List UInt8) (k n : Int) : Int :=
  if (decide (n < 1) || decide ((b.length : Int) = 0)) = true then 0
  else if decide (k < (b.length : Int)) = true then ((b.getD k.toNat 0).toNat : Int).tmod n
  else (xor64 (mixV b k) (IntKind.i64.wrap ((mixV b k).tdiv 64))).tmod n
theorem tdiv_bd {m n : Int} (h : 0 ≤ m) (hn : 0 < n) : 0 ≤ m.tdiv n ∧ m.tdiv n ≤ m := by
  rw [Int.tdiv_eq_ediv_of_nonneg h]
  exact ⟨Int.ediv_nonneg h (by omega), Int.ediv_le_self _ h⟩
theorem getD_get {b : List UInt8} {i : Int} (h0 : 0 ≤ i) (h : i < b.length) : b[i.toNat]? = some (b.getD i.toNat 0) := by
  rw [List.getElem?_eq_getElem (show i.toNat < b.length by omega), List.getD_eq_getElem?_getD, List.getElem?_eq_getElem (show i.toNat < b.length by omega)]; rfl
theorem tmod_bd {m n : Int} (h : 0 ≤ m) (hn : 0 < n) : 0 ≤ m.tmod n ∧ m.tmod n < n := ⟨Int.tmod_nonneg n h, Int.tmod_lt_of_pos m hn⟩
theorem u8_bd (x : UInt8) : (0 : Int) ≤ (x.toNat : Int) ∧ (x.toNat : Int) ≤ 255 := ⟨by omega, by have := x.toNat_lt; omega⟩
theorem mixV_bd {b : List UInt8} {k : Int} (h : 0 ≤ k ∧ k ≤ 1000000) (hb : 0 < b.length) : 0 ≤ mixV b k ∧ mixV b k ≤ 100000000 := by
  have h1 := u8_bd (b.getD (k.tmod b.length).toNat 0)
  have h2 := u8_bd (b.getD ((k * 7 + 3).tmod b.length).toNat 0)
  have h3 := tdiv_bd h.1 (show (0 : Int) < b.length by omega)
  have h4 : IntKind.i64.wrap (k.tdiv b.length) = k.tdiv b.length := wrap_in (by omega)
  unfold mixV
  rw [h4]
  omega
theorem xor64_bd {m n : Int} (h1 : 0 ≤ m ∧ m ≤ 1000000000) (h2 : 0 ≤ n ∧ n ≤ 1000000000) : 0 ≤ xor64 m n := by
  unfold xor64
  obtain ⟨a, rfl⟩ := Int.eq_ofNat_of_zero_le h1.1
  obtain ⟨c, rfl⟩ := Int.eq_ofNat_of_zero_le h2.1
  have e : (BitVec.ofInt 64 (a : Int) ^^^ BitVec.ofInt 64 (c : Int)).toNat = a ^^^ c := by
    have ha : a < 2 ^ 64 := by omega
    have hc : c < 2 ^ 64 := by omega
    rw [BitVec.toNat_xor]
    simp only [BitVec.ofInt_natCast, BitVec.toNat_ofNat, Nat.mod_eq_of_lt ha, Nat.mod_eq_of_lt hc]
  have hx : a ^^^ c < 2 ^ 62 := Nat.xor_lt_two_pow (by omega) (by omega)
  rw [e, wrap_in (by omega)]
  omega
theorem pickV_bd {b : List UInt8} {k n : Int} (h : 0 ≤ k ∧ k ≤ 1000000) : 0 ≤ pickV b k n ∧ (1 ≤ n → pickV b k n < n) := by
  unfold pickV
  split
  · exact ⟨by omega, fun h => by omega⟩
  · rename_i hh
    simp only [Bool.or_eq_true, decide_eq_true_eq, not_or] at hh
    have hb : 0 < b.length := by omega
    split
    · have := tmod_bd (u8_bd (b.getD k.toNat 0)).1 (show 0 < n by omega)
      exact ⟨this.1, fun _ => this.2⟩
    · have hm := mixV_bd h hb
      have h3 := tdiv_bd hm.1 (show (0 : Int) < 64 by omega)
      have h4 : IntKind.i64.wrap ((mixV b k).tdiv 64) = (mixV b k).tdiv 64 := wrap_in (by omega)
      rw [h4]
      have := tmod_bd (xor64_bd (m := mixV b k) (n := (mixV b k).tdiv 64) (by omega) (by omega)) (show 0 < n by omega)
      exact ⟨this.1, fun _ => this.2⟩
def nx (r : Rd) (c : Int) : Rd := ⟨r.b, r.p + c⟩
theorem nx_nx (r : Rd) (c d : Int) : nx (nx r c) d = nx r (c + d) := by simp [nx, Int.add_assoc]
def pk (r : Rd) (n : Int) : Int := pickV r.b r.p n
/-- The reader has not gone too far. -/
def Far (m : Int) (r : Rd) : Prop := 0 ≤ r.p ∧ r.p ≤ m
theorem Far.nx {m c m' : Int} {r : Rd} (h : Far m r) (hc : 0 ≤ c) (hm : m + c ≤ m') : Far m' (nx r c) := by
  unfold Far Go.Wt.nx at *; simp only; omega
theorem Far.weak {m m' : Int} {r : Rd} (h : Far m r) (hm : m ≤ m') : Far m' r := by unfold Far at *; omega
theorem pk_bd {m : Int} {r : Rd} (h : Far m r) (hm : m ≤ 1000000) (n : Int) : 0 ≤ pk r n ∧ (1 ≤ n → pk r n < n) := pickV_bd (by unfold Far at h; omega)
def payV (r : Rd) : Pay := ⟨1 + pk r 3, (1 + pk r 3 + pk (nx r 1) 2).tmod 3 + 1, 1 + pk (nx r 2) 9⟩
def chStep (s : Int × List Itm × Rd) : Int × List Itm × Rd :=
  (s.1 + 1 + IntKind.i64.wrap ((pk s.2.2 6).tdiv 5) * pk (nx s.2.2 1) 3, s.2.1 ++ [⟨s.1 + 1 + IntKind.i64.wrap ((pk s.2.2 6).tdiv 5) * pk (nx s.2.2 1) 3, payV (nx s.2.2 2)⟩], nx s.2.2 5)
def chIter (r : Rd) : Nat → Int × List Itm × Rd
  | 0 => (0, [], nx r 1)
  | n + 1 => chStep (chIter r n)
def chainV (r : Rd) : List Itm := (chIter r (pk r 7).toNat).2.1
def chainR (r : Rd) : Rd := (chIter r (pk r 7).toNat).2.2
theorem chIter_r (r : Rd) : ∀ n : Nat, (chIter r n).2.2 = nx r (1 + 5 * n)
  | 0 => rfl
  | n + 1 => by
    simp only [chIter, chStep, chIter_r r n, nx_nx]
    first | (congr 1; omega) | congr 1
theorem chIter_len (r : Rd) : ∀ n : Nat, (chIter r n).2.1.length = n
  | 0 => rfl
  | n + 1 => by simp [chIter, chStep, chIter_len r n]
theorem chIter_at {m : Int} {r : Rd} (h : Far m r) (hm : m + 1000 ≤ 1000000) : ∀ n : Nat, n ≤ 100 → 0 ≤ (chIter r n).1 ∧ (chIter r n).1 ≤ 4 * n
  | 0, _ => by simp [chIter]
  | n + 1, hn => by
    have ih := chIter_at h hm n (by omega)
    have hf : Far (m + 1 + 5 * n) (nx r (1 + 5 * (n : Int))) := h.nx (by omega) (by omega)
    have h1 := pk_bd hf (by omega) 6
    have h2 := pk_bd (hf.nx (c := 1) (m' := m + 2 + 5 * n) (by omega) (by omega)) (by omega) 3
    have h3 : (pk (nx r (1 + 5 * (n : Int))) 6).tdiv 5 = 0 ∨ (pk (nx r (1 + 5 * (n : Int))) 6).tdiv 5 = 1 := by
      rw [Int.tdiv_eq_ediv_of_nonneg h1.1]
      have := h1.2 (by omega)
      omega
    simp only [chIter, chStep, chIter_r]
    rcases h3 with h3 | h3
    · rw [h3, wrap_in (by omega)]; omega
    · rw [h3, wrap_in (by omega)]
      have := h2.2 (by omega)
      omega
theorem chainV_len {m : Int} {r : Rd} (h : Far m r) (hm : m ≤ 1000000) : (chainV r).length ≤ 6 := by
  unfold chainV
  rw [chIter_len]
  have := pk_bd h hm 7
  have := this.2 (by omega)
  omega
theorem chainR_eq {r : Rd} : chainR r = nx r (1 + 5 * ((pk r 7).toNat : Int)) := chIter_r r _
theorem chainR_far {m : Int} {r : Rd} (h : Far m r) (hm : m ≤ 1000000) : Far (m + 31) (chainR r) := by
  rw [chainR_eq]
  have := pk_bd h hm 7
  have := this.2 (by omega)
  exact h.nx (by omega) (by omega)
/-- What comes first ends in one of many states. -/
theorem awp_seq_ex {P : Program} {S : Nat → Prop} {st : St} {ι : Type} {x y : Code} {Q : Exit → St → Prop} (s' : ι → St) (Φ : ι → Prop) (h1 : awp P S x (athen (fun s => ∃ i, Φ i ∧ Le S s (s' i)) Q) st) (h2 : ∀ i, Φ i → awp P S y Q (s' i)) : awp P S (.seq x y) Q st :=
  awp_seq (awp_mono h1 fun e s q => by
    cases e with
    | normal => obtain ⟨i, q1, q2⟩ := q; exact awp_le q2 (h2 i q1)
    | exit id => exact q
    | goto l => exact q
    | ret => exact q
    | panic ch => exact q
    | outgrown => exact q)
theorem awp_to_ex {P : Program} {S : Nat → Prop} {st : St} {ι : Type} {x y : Code} {Q Q' : Exit → St → Prop} (s' : ι → St) (Φ : ι → Prop) (h1 : awp P S x (athen (fun s => ∃ i, Φ i ∧ Le S s (s' i)) Q) st) (h2 : ∀ i, Φ i → awp P S y Q' (s' i)) : awp P S x (athen (awp P S y Q') Q) st :=
  awp_mono h1 fun e s q => by
    cases e with
    | normal => obtain ⟨i, q1, q2⟩ := q; exact awp_le q2 (h2 i q1)
    | exit id => exact q
    | goto l => exact q
    | ret => exact q
    | panic ch => exact q
    | outgrown => exact q
/-- A call whose result isn't known in full. -/
theorem awpOps_callE {P : Program} {S : Nat → Prop} {ops : Array Oper} {st : St} {d : Nat} {T pos aft} {x : Operand} {f : FuncId} {xs : List Operand} {av : List AV} {ts : Array TypeId} {rt : List Nat} {l : List Oper} {Q : St → Prop} {ι : Type} (ol : List (Nat × Obj)) (fr : ι → AV) (g : ι → List (Nat × Obj)) (Φ : ι → Prop) {R : AV → (Nat → Obj) → Prop}
    (hfun : st.ev x = some (.fn f [] [])) (hB : fnB P f = true) (ha : Args st 0 xs av rt) (hct : Ct P f av (obs ol) R) (hR : ∀ r h', R r h' → ∃ i, r = fr i ∧ h' = obs (g i) ∧ Φ i) (hol : OLs st ol) (hok : OKs (keys ol) ol)
    (hdis : ∀ z ∈ av, z.dis = z ∧ ∀ o ∈ z.refs, keys ol o = true) (hn : Nat.blt d st.n = true) (hke : ∀ i, keysEq ol (g i) = true) (hok' : ∀ i, OKs (keys ol) (g i)) (hrr : ∀ i, ∀ o ∈ (fr i).refs, keys ol o = true)
    (hk : ∀ i, Φ i → awpOps P S ops l Q (st.upd [(d, some (fr i))] (g i))) :
    awpOps P S ops (⟨some d, .call { callee := .value x, args := xs.toArray, argTypes := ts }, T, pos, aft, none⟩ :: l) Q st :=
  awpOps_callO (fa := []) (fc := []) ol hfun hB ha (by simpa [avs] using hct) hol hok (by simpa [avs] using hdis) hn fun r h' hr => by
    obtain ⟨i, rfl, rfl, hi⟩ := hR r h' hr
    have hkk := keysEq_keys (hke i)
    refine ⟨g i, rfl, fun o ho => (by rw [← hkk]; exact ho), fun o ho h1 => (by rw [← hkk] at ho; rw [ho] at h1; cases h1), ?_, fun o ho => (by rw [← hkk]; exact hrr i o ho), hk i hi⟩
    rw [← hkk]; exact hok' i
theorem awp_toB_ex {P : Program} {S : Nat → Prop} {st : St} {id : Nat} {ι : Type} {x y : Code} {Q Q' : Exit → St → Prop} (s' : ι → St) (Φ : ι → Prop) (h1 : awp P S x (ablock id (athen (fun s => ∃ i, Φ i ∧ Le S s (s' i)) Q)) st) (h2 : ∀ i, Φ i → awp P S y Q' (s' i)) : awp P S x (ablock id (athen (awp P S y Q') Q)) st :=
  awp_mono h1 fun e s q => by
    cases e with
    | normal => obtain ⟨i, q1, q2⟩ := q; exact awp_le q2 (h2 i q1)
    | exit j =>
      simp only [ablock] at q ⊢
      split at q
      · rw [if_pos (by assumption)]; obtain ⟨i, q1, q2⟩ := q; exact awp_le q2 (h2 i q1)
      · rw [if_neg (by assumption)]; exact q
    | goto l => exact q
    | ret => exact q
    | panic ch => exact q
    | outgrown => exact q
section bools
variable {P : Program} {S : Nat → Prop} {ops : Array Oper} {st : St} {d : Nat} {T pos aft} {x y : Operand} {t t' : TypeId} {m n : Bool}
end bools
end Go.Wt

/- The reference: draws. -/
set_option linter.unusedVariables false
set_option linter.unusedSimpArgs false
namespace Go.Proofs.Ytmabpmlcclgecaa
open Go Go.Wt
theorem l6Open_ct (code : List UInt8) : Ct Try.prog 30 [.v code] noObj (fun r1 h1 => r1 = .box 0 (IsLens.whole Rd) ∧ h1 = obs [(0, .cell (Rd.mk (code.take 2000) 0))]) := by
  refine Ct.intro Try.func30 rfl rfl ?_
  all_goals refine awp_seq (awp_region (id := 0) ?_)
  all_goals refine awpOps_cons (op_as rfl (Conv.of rfl) rfl) ?_
  all_goals refine awpOps_nil ?_
  all_goals refine awp_seq (awp_seq (awp_region (id := 1) ?_))
  all_goals refine awpOps_cons (op_mv rfl (Conv.of rfl) rfl) ?_
  all_goals refine awpOps_cons (op_len sl22 rfl rfl) ?_
  all_goals refine awpOps_cons (op_gtr rfl rfl rfl) ?_
  all_goals refine awpOps_nil ?_
  refine awp_cond rfl (fun h => ?_) (fun h => ?_)
  · all_goals refine awp_region (id := 2) ?_
    all_goals refine awpOps_cons (op_mv rfl (Conv.of rfl) rfl) ?_
    all_goals refine awpOps_cons (op_slh sl22 rfl rfl rfl ⟨by omega, by simp at h; omega⟩) ?_
    all_goals refine awpOps_cons (op_as rfl (Conv.of rfl) rfl) ?_
    all_goals refine awpOps_nil ?_
    all_goals refine awp_seq (awp_region (id := 3) ?_)
    all_goals refine awpOps_cons (op_mv rfl (Conv.of rfl) rfl) ?_
    all_goals refine awpOps_cons (op_build (.cons f84_0 rfl (Conv.of rfl) (.nil _)) z84 rfl pl84 rfl) ?_
    all_goals refine awpOps_cons (op_box (o := 0) ty84 rfl (Conv.of rfl) rfl rfl) ?_
    all_goals refine awpOps_cons (op_as rfl (Conv.of rfl) rfl) ?_
    all_goals refine awpOps_nil ?_
    refine awp_ret ?_
    repeat first | refine rt_seq ?_ | refine rt_block ?_
    exact ⟨_, _, res1E [(0, .cell (Rd.mk (code.take 2000) 0))] rfl rfl rfl (olk rfl obOk_cell oln) noS, rfl, rfl⟩
  · have e : code.take 2000 = code := take_end (by simp at h; omega)
    refine awp_skip ?_
    all_goals refine awp_seq (awp_region (id := 3) ?_)
    all_goals refine awpOps_cons (op_mv rfl (Conv.of rfl) rfl) ?_
    all_goals refine awpOps_cons (op_build (.cons f84_0 rfl (Conv.of rfl) (.nil _)) z84 rfl pl84 rfl) ?_
    all_goals refine awpOps_cons (op_box (o := 0) ty84 rfl (Conv.of rfl) rfl rfl) ?_
    all_goals refine awpOps_cons (op_as rfl (Conv.of rfl) rfl) ?_
    all_goals refine awpOps_nil ?_
    refine awp_ret ?_
    repeat first | refine rt_seq ?_ | refine rt_block ?_
    refine ⟨_, _, res1E [(0, .cell (Rd.mk code 0))] rfl rfl rfl (olk rfl obOk_cell oln) noS, rfl, ?_⟩
    rw [e]
set_option maxHeartbeats 1000000 in
theorem pick_ct (r : Rd) (n : Int) (hp : 0 ≤ r.p ∧ r.p ≤ 1000000) : CtO Try.prog 33 [.box 0 (IsLens.whole Rd), .v n] [(0, .cell r)] (.v (pk r n)) [(0, .cell (nx r 1))] := by
  refine Ct.intro Try.func33 rfl rfl ?_
  all_goals refine awp_seq (awp_region (id := 0) ?_)
  all_goals refine awpOps_cons (op_as rfl (Conv.of rfl) rfl) ?_
  all_goals refine awpOps_nil ?_
  all_goals refine awp_seq (awp_region (id := 1) ?_)
  all_goals refine awpOps_cons (op_mv rfl (Conv.of rfl) rfl) ?_
  all_goals refine awpOps_cons (op_mv rfl (Conv.of rfl) rfl) ?_
  all_goals refine awpOps_cons (op_nilc_box rfl rfl) ?_
  all_goals refine awpOps_cons (op_fab f84_1 rfl rfl) ?_
  all_goals refine awpOps_cons (op_ld ty3 rfl rfl rfl) ?_
  all_goals refine awpOps_cons (op_add rfl rfl rfl (by omega)) ?_
  all_goals refine awpOps_cons (op_nilc_box rfl rfl) ?_
  all_goals refine awpOps_cons (op_fab f84_1 rfl rfl) ?_
  all_goals refine awpOps_cons (op_st ty3 rfl rfl (Conv.of rfl) rfl) ?_
  all_goals refine awpOps_nil ?_
  refine awp_seq (awp_seq_to (s' := mkSt 99 [(0, .box 0 (IsLens.whole Rd)), (1, .v n), (24, .v (decide (n < 1) || decide ((r.b.length : Int) = 0)))] [(0, .cell (nx r 1))]) ?_ ?_)
  · all_goals refine awp_region (id := 2) ?_
    all_goals refine awpOps_cons (op_mv rfl (Conv.of rfl) rfl) ?_
    all_goals refine awpOps_cons (op_lss rfl rfl rfl) ?_
    all_goals refine awpOps_cons (op_mv rfl (Conv.of rfl) rfl) ?_
    all_goals refine g_split (t := 17) rfl (fun h => ?_) (fun h => ?_)
    all_goals first | refine awpOps_cons (g_off rfl rfl rfl rfl rfl) ?_ | refine awpOps_cons (g_on rfl rfl rfl (op_mv rfl (Conv.of rfl) rfl)) ?_
    all_goals first | refine awpOps_cons (g_off rfl rfl rfl rfl rfl) ?_ | refine awpOps_cons (g_on rfl rfl rfl (op_nilc_box rfl rfl)) ?_
    all_goals first | refine awpOps_cons (g_off rfl rfl rfl rfl rfl) ?_ | refine awpOps_cons (g_on rfl rfl rfl (op_fab f84_0 rfl rfl)) ?_
    all_goals first | refine awpOps_cons (g_off rfl rfl rfl rfl rfl) ?_ | refine awpOps_cons (g_on rfl rfl rfl (op_ld ty22 rfl rfl rfl)) ?_
    all_goals first | refine awpOps_cons (g_off rfl rfl rfl rfl rfl) ?_ | refine awpOps_cons (g_on rfl rfl rfl (op_len sl22 rfl rfl)) ?_
    all_goals first | refine awpOps_cons (g_off rfl rfl rfl rfl rfl) ?_ | refine awpOps_cons (g_on rfl rfl rfl (op_eql rfl rfl rfl)) ?_
    all_goals refine awpOps_cons (op_pick rfl rfl rfl rfl) ?_
    all_goals refine awpOps_nil ?_
    all_goals exact Le.mk rfl (tlb rfl rfl rfl (tle rfl (rfl) rfl (tle rfl (by (simp_all [nx]; try (rw [Bool.eq_iff_iff]; simp); try (intro hh; omega))) rfl tln))) (olk rfl (by exact obOk_cell) oln) (hS_sub (a := [(0, .cell r)]) rfl)
  refine awp_cond rfl (fun h => ?_) (fun h => ?_)
  · all_goals refine awp_seq (awp_region (id := 3) ?_)
    all_goals refine awpOps_cons (op_as rfl (Conv.of rfl) rfl) ?_
    all_goals refine awpOps_nil ?_
    refine awp_ret ?_
    repeat first | refine rt_seq ?_ | refine rt_block ?_
    refine finO1 [(0, .cell (nx r 1))] (.v rfl (Conv.of rfl)) (fun o ho => by cases ho) (olk rfl obOk_cell oln) (hS_keys rfl) ?_
    show AV.v _ = AV.v _
    unfold pk pickV
    rw [if_pos h]
  · have hb : r.b.length ≠ 0 := by
      simp only [Bool.or_eq_false_iff, decide_eq_false_iff_not] at h; omega
    have hn : n ≠ 0 := by
      simp only [Bool.or_eq_false_iff, decide_eq_false_iff_not] at h; omega
    refine awp_skip ?_
    refine awp_seq_to (s' := mkSt 99 [(0, .box 0 (IsLens.whole Rd)), (1, .v n), (5, .v r.p)] [(0, .cell (nx r 1))]) ?_ ?_
    · all_goals refine awp_region (id := 4) ?_
      all_goals refine awpOps_cons (op_mv rfl (Conv.of rfl) rfl) ?_
      all_goals refine awpOps_cons (op_nilc_box rfl rfl) ?_
      all_goals refine awpOps_cons (op_fab f84_1 rfl rfl) ?_
      all_goals refine awpOps_cons (op_ld ty3 rfl rfl rfl) ?_
      all_goals refine awpOps_cons (op_sub rfl rfl rfl (by (simp only [nx]; omega))) ?_
      all_goals refine awpOps_cons (op_as rfl (Conv.of rfl) rfl) ?_
      all_goals refine awpOps_nil ?_
      all_goals exact Le.mk rfl (tlb rfl rfl rfl (tle rfl (rfl) rfl (tle rfl (by (simp only [nx]; congr 1; omega)) rfl tln))) (olk rfl (by exact obOk_cell) oln) (hS_sub (a := [(0, .cell r)]) rfl)
    all_goals refine awp_seq (awp_seq (awp_region (id := 5) ?_))
    all_goals refine awpOps_cons (op_mv rfl (Conv.of rfl) rfl) ?_
    all_goals refine awpOps_cons (op_mv rfl (Conv.of rfl) rfl) ?_
    all_goals refine awpOps_cons (op_nilc_box rfl rfl) ?_
    all_goals refine awpOps_cons (op_fab f84_0 rfl rfl) ?_
    all_goals refine awpOps_cons (op_ld ty22 rfl rfl rfl) ?_
    all_goals refine awpOps_cons (op_len sl22 rfl rfl) ?_
    all_goals refine awpOps_cons (op_lss rfl rfl rfl) ?_
    all_goals refine awpOps_nil ?_
    refine awp_cond rfl (fun h2 => ?_) (fun h2 => ?_)
    · have hlt : r.p < r.b.length := of_decide_eq_true h2
      have hx := getD_get hp.1 hlt
      all_goals refine awp_seq (awp_region (id := 6) ?_)
      all_goals refine awpOps_cons (op_mv rfl (Conv.of rfl) rfl) ?_
      all_goals refine awpOps_cons (op_nilc_box rfl rfl) ?_
      all_goals refine awpOps_cons (op_fab f84_0 rfl rfl) ?_
      all_goals refine awpOps_cons (op_ld ty22 rfl rfl rfl) ?_
      all_goals refine awpOps_cons (op_mv rfl (Conv.of rfl) rfl) ?_
      all_goals refine awpOps_cons (op_ix sl22 rfl rfl rfl (by omega) hx) ?_
      all_goals refine awpOps_cons (op_ldr ty5 rfl rfl) ?_
      all_goals refine awpOps_cons (op_cvb rfl rfl us5 ui3) ?_
      all_goals refine awpOps_cons (op_mv rfl (Conv.of rfl) rfl) ?_
      all_goals refine awpOps_cons (op_rem rfl rfl rfl (by exact hn)) ?_
      all_goals refine awpOps_cons (op_as rfl (Conv.of rfl) rfl) ?_
      all_goals refine awpOps_nil ?_
      refine awp_ret ?_
      repeat first | refine rt_seq ?_ | refine rt_block ?_
      refine finO1 [(0, .cell (nx r 1))] (.v rfl (Conv.of rfl)) (fun o ho => by cases ho) (olk rfl obOk_cell oln) (hS_keys rfl) ?_
      show AV.v _ = AV.v _
      unfold pk pickV
      rw [if_neg (by rw [h]; decide), if_pos (by simpa using hlt)]
    · have hge : ¬ r.p < r.b.length := of_decide_eq_false h2
      have m1 := tmod_bd hp.1 (show (0 : Int) < (nx r 1).b.length by simp [nx]; omega)
      have m2 := tmod_bd (show 0 ≤ r.p * 7 + 3 by omega) (show (0 : Int) < (nx r 1).b.length by simp [nx]; omega)
      have hx1 := getD_get m1.1 m1.2
      have hx2 := getD_get m2.1 m2.2
      have b1 := u8_bd ((nx r 1).b.getD (r.p.tmod (nx r 1).b.length).toNat 0)
      have b2 := u8_bd ((nx r 1).b.getD ((r.p * 7 + 3).tmod (nx r 1).b.length).toNat 0)
      have h3 := tdiv_bd hp.1 (show (0 : Int) < (nx r 1).b.length by simp [nx]; omega)
      have h4 : IntKind.i64.wrap (r.p.tdiv (nx r 1).b.length) = r.p.tdiv (nx r 1).b.length := wrap_in (by omega)
      refine awp_skip ?_
      all_goals refine awp_seq (dr_start (id := 7) ?_)
      all_goals refine dr_cons (op_mv rfl (Conv.of rfl) rfl) ?_
      all_goals refine dr_cons (op_nilc_box rfl rfl) ?_
      all_goals refine dr_cons (op_fab f84_0 rfl rfl) ?_
      all_goals refine dr_cons (op_ld ty22 rfl rfl rfl) ?_
      all_goals refine dr_cons (op_mv rfl (Conv.of rfl) rfl) ?_
      all_goals refine dr_cons (op_mv rfl (Conv.of rfl) rfl) ?_
      all_goals refine dr_cons (op_nilc_box rfl rfl) ?_
      all_goals refine dr_cons (op_fab f84_0 rfl rfl) ?_
      all_goals refine dr_cons (op_ld ty22 rfl rfl rfl) ?_
      all_goals refine dr_cons (op_len sl22 rfl rfl) ?_
      all_goals refine dr_cons (op_rem rfl rfl rfl (by (show (r.b.length : Int) ≠ 0; omega))) ?_
      all_goals refine dr_cons (op_ix sl22 rfl rfl rfl (by omega) hx1) ?_
      all_goals refine dr_cons (op_ldr ty5 rfl rfl) ?_
      all_goals refine dr_cons (op_cvb rfl rfl us5 ui3) ?_
      all_goals refine dr_cons (op_mul rfl rfl rfl (by omega)) ?_
      all_goals refine dr_cons (op_mv rfl (Conv.of rfl) rfl) ?_
      all_goals refine dr_cons (op_nilc_box rfl rfl) ?_
      all_goals refine dr_cons (op_fab f84_0 rfl rfl) ?_
      all_goals refine dr_cons (op_ld ty22 rfl rfl rfl) ?_
      all_goals refine dr_cons (op_mv rfl (Conv.of rfl) rfl) ?_
      all_goals refine dr_cons (op_mul rfl rfl rfl (by omega)) ?_
      all_goals refine dr_cons (op_add rfl rfl rfl (by omega)) ?_
      all_goals refine dr_cons (op_mv rfl (Conv.of rfl) rfl) ?_
      all_goals refine dr_cons (op_nilc_box rfl rfl) ?_
      all_goals refine dr_cons (op_fab f84_0 rfl rfl) ?_
      all_goals refine dr_cons (op_ld ty22 rfl rfl rfl) ?_
      all_goals refine dr_cons (op_len sl22 rfl rfl) ?_
      all_goals refine dr_cons (op_rem rfl rfl rfl (by (show (r.b.length : Int) ≠ 0; omega))) ?_
      all_goals refine dr_cons (op_ix sl22 rfl rfl rfl (by omega) hx2) ?_
      all_goals refine dr_cons (op_ldr ty5 rfl rfl) ?_
      all_goals refine dr_cons (op_cvb rfl rfl us5 ui3) ?_
      all_goals refine dr_cons (op_mul rfl rfl rfl (by omega)) ?_
      all_goals refine dr_cons (op_add rfl rfl rfl (by omega)) ?_
      all_goals refine dr_cons (op_mv rfl (Conv.of rfl) rfl) ?_
      all_goals refine dr_cons (op_mul rfl rfl rfl (by omega)) ?_
      all_goals refine dr_cons (op_add rfl rfl rfl (by omega)) ?_
      all_goals refine dr_cons (op_mv rfl (Conv.of rfl) rfl) ?_
      all_goals refine dr_cons (op_mv rfl (Conv.of rfl) rfl) ?_
      all_goals refine dr_cons (op_nilc_box rfl rfl) ?_
      all_goals refine dr_cons (op_fab f84_0 rfl rfl) ?_
      all_goals refine dr_cons (op_ld ty22 rfl rfl rfl) ?_
      all_goals refine dr_cons (op_len sl22 rfl rfl) ?_
      all_goals refine dr_cons (op_quo rfl rfl rfl (by (show (r.b.length : Int) ≠ 0; omega))) ?_
      all_goals refine dr_cons (op_mul rfl rfl rfl (by (rw [h4]; omega))) ?_
      all_goals refine dr_cons (op_add rfl rfl rfl (by (rw [h4]; omega))) ?_
      all_goals refine dr_cons (op_as rfl (Conv.of rfl) rfl) ?_
      all_goals set_option maxRecDepth 100000 in refine dr_nil mixed rfl ?_
      all_goals refine awp_seq (awp_region (id := 8) ?_)
      all_goals refine awpOps_cons (op_mv rfl (Conv.of rfl) rfl) ?_
      all_goals refine awpOps_cons (op_mv rfl (Conv.of rfl) rfl) ?_
      all_goals refine awpOps_cons (op_quo rfl rfl rfl (by decide)) ?_
      all_goals refine awpOps_cons (op_xor rfl rfl rfl) ?_
      all_goals refine awpOps_cons (op_as rfl (Conv.of rfl) rfl) ?_
      all_goals refine awpOps_nil ?_
      all_goals refine awp_seq (awp_region (id := 9) ?_)
      all_goals refine awpOps_cons (op_mv rfl (Conv.of rfl) rfl) ?_
      all_goals refine awpOps_cons (op_mv rfl (Conv.of rfl) rfl) ?_
      all_goals refine awpOps_cons (op_rem rfl rfl rfl (by exact hn)) ?_
      all_goals refine awpOps_cons (op_as rfl (Conv.of rfl) rfl) ?_
      all_goals refine awpOps_nil ?_
      refine awp_ret ?_
      repeat first | refine rt_seq ?_ | refine rt_block ?_
      refine finO1 [(0, .cell (nx r 1))] (.v rfl (Conv.of rfl)) (fun o ho => by cases ho) (olk rfl obOk_cell oln) (hS_keys rfl) ?_
      show AV.v _ = AV.v _
      unfold pk pickV mixV
      rw [if_neg (by rw [h]; decide), if_neg (by simpa using hge)]
      rfl
end Go.Proofs.Ytmabpmlcclgecaa

/- The reference: draws of payments and chains. -/
set_option linter.unusedVariables false
set_option linter.unusedSimpArgs false
namespace Go.Proofs.Ytmabpmlcclgecaa
open Go Go.Wt
theorem l71Pay_ct (r : Rd) (hp : Far 900000 r) : CtO Try.prog 38 [.box 0 (IsLens.whole Rd)] [(0, .cell r)] (.v (payV r)) [(0, .cell (nx r 3))] := by
  have hp1 : Far 900001 (nx r 1) := hp.nx (by omega) (by omega)
  have hp2 : Far 900002 (nx (nx r 1) 1) := hp1.nx (by omega) (by omega)
  have b0 := pk_bd hp (by omega) 3
  have b1 := pk_bd hp1 (by omega) 2
  have b2 := pk_bd hp2 (by omega) 9
  have c0 := b0.2 (by omega)
  have c1 := b1.2 (by omega)
  have c2 := b2.2 (by omega)
  have m1 := tmod_bd (show 0 ≤ 1 + pk r 3 + pk (nx r 1) 2 by omega) (show (0 : Int) < 3 by omega)
  refine Ct.intro Try.func38 rfl rfl ?_
  all_goals refine awp_seq (awp_region (id := 0) ?_)
  all_goals refine awpOps_cons (op_alloc (o := 2) z36 rfl rfl) ?_
  all_goals refine awpOps_nil ?_
  all_goals refine awp_seq (awp_region (id := 1) ?_)
  all_goals refine awpOps_cons (op_mv rfl (Conv.of rfl) rfl) ?_
  all_goals refine awpOps_cons (op_callO fb33 (.cons rfl (Conv.of rfl) (.cons rfl (Conv.of rfl) (.nil _))) (pick_ct r 3 (by unfold Far at hp; omega)) (olsk rfl ols0) (oksk (by exact obOk_cell) oks0) (oksk (by exact obOk_cell) oks0) rfl (argOb rfl rfl rfl (argOk' rfl rfl argO0)) (fun o ho => by cases ho) rfl) ?_
  all_goals refine awpOps_cons (op_add rfl rfl rfl (by omega)) ?_
  all_goals refine awpOps_cons (op_as rfl (Conv.of rfl) rfl) ?_
  all_goals refine awpOps_nil ?_
  all_goals refine awp_seq (awp_region (id := 2) ?_)
  all_goals refine awpOps_cons (op_mv rfl (Conv.of rfl) rfl) ?_
  all_goals refine awpOps_cons (op_mv rfl (Conv.of rfl) rfl) ?_
  all_goals refine awpOps_cons (op_mv rfl (Conv.of rfl) rfl) ?_
  all_goals refine awpOps_cons (op_callO fb33 (.cons rfl (Conv.of rfl) (.cons rfl (Conv.of rfl) (.nil _))) (pick_ct (nx r 1) 2 (by unfold Far at hp1; omega)) (olsk rfl ols0) (oksk (by exact obOk_cell) oks0) (oksk (by exact obOk_cell) oks0) rfl (argOb rfl rfl rfl (argOk' rfl rfl argO0)) (fun o ho => by cases ho) rfl) ?_
  all_goals refine awpOps_cons (op_add rfl rfl rfl (by omega)) ?_
  all_goals refine awpOps_cons (op_rem rfl rfl rfl (by decide)) ?_
  all_goals refine awpOps_cons (op_add rfl rfl rfl (by omega)) ?_
  all_goals refine awpOps_cons (op_mv rfl (Conv.of rfl) rfl) ?_
  all_goals refine awpOps_cons (op_callO fb33 (.cons rfl (Conv.of rfl) (.cons rfl (Conv.of rfl) (.nil _))) (pick_ct (nx (nx r 1) 1) 9 (by unfold Far at hp2; omega)) (olsk rfl ols0) (oksk (by exact obOk_cell) oks0) (oksk (by exact obOk_cell) oks0) rfl (argOb rfl rfl rfl (argOk' rfl rfl argO0)) (fun o ho => by cases ho) rfl) ?_
  all_goals refine awpOps_cons (op_add rfl rfl rfl (by omega)) ?_
  all_goals refine awpOps_cons (op_build (.cons f36_0 rfl (Conv.of rfl) (.cons f36_1 rfl (Conv.of rfl) (.cons f36_2 rfl (Conv.of rfl) (.nil _)))) z36 rfl pl36 rfl) ?_
  all_goals refine awpOps_cons (op_st ty36 rfl rfl (Conv.of rfl) rfl) ?_
  all_goals refine awpOps_nil ?_
  refine awp_ret ?_
  repeat first | refine rt_seq ?_ | refine rt_block ?_
  refine finO1 [(0, .cell (nx r 3))] (.rc ty36 rfl rfl) (fun o ho => by cases ho) (olk (by show Wt.Obj.cell _ = Wt.Obj.cell _; rw [nx_nx, nx_nx]; rfl) obOk_cell oln) (hS_keys rfl) ?_
  show AV.v _ = AV.v _
  unfold payV
  rw [nx_nx]; rfl
set_option maxHeartbeats 1000000 in
theorem l71Chain_ct (r : Rd) (hp : Far 800000 r) : CtO Try.prog 95 [.box 0 (IsLens.whole Rd)] [(0, .cell r)] (.v (chainV r)) [(0, .cell (chainR r))] := by
  have b0 := pk_bd hp (by omega) 7
  have c0 := b0.2 (by omega)
  refine Ct.intro Try.func95 rfl rfl ?_
  all_goals refine awp_seq (awp_region (id := 0) ?_)
  all_goals refine awpOps_cons (op_as rfl (Conv.of rfl) rfl) ?_
  all_goals refine awpOps_nil ?_
  all_goals refine awp_seq (awp_region (id := 1) ?_)
  all_goals refine awpOps_cons (op_bsl sl26 z38 (.nil _) rfl (by decide) rfl) ?_
  all_goals refine awpOps_cons (op_asl rfl rfl rfl rfl) ?_
  all_goals refine awpOps_nil ?_
  all_goals refine awp_seq (awp_region (id := 2) ?_)
  all_goals refine awpOps_cons (op_as rfl (Conv.of rfl) rfl) ?_
  all_goals refine awpOps_nil ?_
  all_goals refine awp_seq (awp_seq (awp_region (id := 3) ?_))
  all_goals refine awpOps_cons (op_mv rfl (Conv.of rfl) rfl) ?_
  all_goals refine awpOps_cons (op_callO fb33 (.cons rfl (Conv.of rfl) (.cons rfl (Conv.of rfl) (.nil _))) (pick_ct r 7 (by unfold Far at hp; omega)) (olsk rfl ols0) (oksk (by exact obOk_cell) oks0) (oksk (by exact obOk_cell) oks0) rfl (argOb rfl rfl rfl (argOk' rfl rfl argO0)) (fun o ho => by cases ho) rfl) ?_
  all_goals refine awpOps_cons (op_as rfl (Conv.of rfl) rfl) ?_
  all_goals refine awpOps_nil ?_
  refine awp_block ?_
  refine awp_loop' (fun n_ s => ∃ (k : Nat), ∃ (hk : n_ + k = (pk r 7).toNat), s = mkSt 30 [(0, .box 0 (IsLens.whole Rd)), (3, .v (OList.mk (chIter r k).2.1 true)), (4, .v (chIter r k).1), (5, .v (pk r 7 - (k : Int)))] [(0, .cell (chIter r k).2.2)]) ((pk r 7).toNat) ⟨0, by omega, rfl⟩ (Le.mk rfl (tlb rfl rfl rfl (tle rfl (by rfl) rfl (tle rfl (by rfl) rfl (tle rfl (by (show AV.v _ = AV.v _; congr 1; omega)) rfl tln)))) (olk (by rfl) (by exact obOk_cell) oln) (hS_sub (a := [(0, .cell r)]) rfl)) ?_
  rintro n_ s ⟨k, hk, rfl⟩
  have hk6 : k ≤ 6 := by omega
  have hat := chIter_at hp (by omega) k (by omega)
  have hf0 : Far 800500 (chIter r k).2.2 := by rw [chIter_r]; exact hp.nx (by omega) (by omega)
  have hln := chIter_len r k
  all_goals refine awp_seq (awp_seq (awp_region (id := 4) ?_))
  all_goals refine awpOps_cons (op_mv rfl (Conv.of rfl) rfl) ?_
  all_goals refine awpOps_cons (op_gtr rfl rfl rfl) ?_
  all_goals refine awpOps_nil ?_
  refine awp_cond rfl (fun h => ?_) (fun h => ?_)
  · have hlt : (k : Int) < pk r 7 := by have := of_decide_eq_true h; omega
    generalize hs : chIter r k = s at hat hf0 hln
    have hf1 : Far 800501 (nx s.2.2 1) := hf0.nx (by omega) (by omega)
    have hf2 : Far 800502 (nx (nx s.2.2 1) 1) := hf1.nx (by omega) (by omega)
    have d0 := pk_bd hf0 (by omega) 6
    have d1 := pk_bd hf1 (by omega) 3
    have e0 := d0.2 (by omega)
    have e1 := d1.2 (by omega)
    have hq : IntKind.i64.wrap ((pk s.2.2 6).tdiv 5) = 0 ∨ IntKind.i64.wrap ((pk s.2.2 6).tdiv 5) = 1 := by
      have : (pk s.2.2 6).tdiv 5 = 0 ∨ (pk s.2.2 6).tdiv 5 = 1 := by
        rw [Int.tdiv_eq_ediv_of_nonneg d0.1]; omega
      rw [wrap_in (by omega)]; exact this
    have hm : 0 ≤ IntKind.i64.wrap ((pk s.2.2 6).tdiv 5) * pk (nx s.2.2 1) 3 ∧ IntKind.i64.wrap ((pk s.2.2 6).tdiv 5) * pk (nx s.2.2 1) 3 ≤ 2 := by
      rcases hq with hq | hq <;> rw [hq] <;> omega
    refine awp_skip ?_
    refine awp_seq (awp_block ?_)
    all_goals refine awp_seq (awp_region (id := 6) ?_)
    all_goals refine awpOps_cons (op_mv rfl (Conv.of rfl) rfl) ?_
    all_goals refine awpOps_cons (op_add rfl rfl rfl (by omega)) ?_
    all_goals refine awpOps_cons (op_mv rfl (Conv.of rfl) rfl) ?_
    all_goals refine awpOps_cons (op_callO fb33 (.cons rfl (Conv.of rfl) (.cons rfl (Conv.of rfl) (.nil _))) (pick_ct s.2.2 6 (by unfold Far at hf0; omega)) (olsk rfl ols0) (oksk (by exact obOk_cell) oks0) (oksk (by exact obOk_cell) oks0) rfl (argOb rfl rfl rfl (argOk' rfl rfl argO0)) (fun o ho => by cases ho) rfl) ?_
    all_goals refine awpOps_cons (op_quo rfl rfl rfl (by decide)) ?_
    all_goals refine awpOps_cons (op_mv rfl (Conv.of rfl) rfl) ?_
    all_goals refine awpOps_cons (op_callO fb33 (.cons rfl (Conv.of rfl) (.cons rfl (Conv.of rfl) (.nil _))) (pick_ct (nx s.2.2 1) 3 (by unfold Far at hf1; omega)) (olsk rfl ols0) (oksk (by exact obOk_cell) oks0) (oksk (by exact obOk_cell) oks0) rfl (argOb rfl rfl rfl (argOk' rfl rfl argO0)) (fun o ho => by cases ho) rfl) ?_
    all_goals refine awpOps_cons (op_mul rfl rfl rfl (by omega)) ?_
    all_goals refine awpOps_cons (op_add rfl rfl rfl (by omega)) ?_
    all_goals refine awpOps_cons (op_as rfl (Conv.of rfl) rfl) ?_
    all_goals refine awpOps_nil ?_
    all_goals refine awp_region (id := 7) ?_
    all_goals refine awpOps_cons (op_mvl rfl rfl rfl rfl) ?_
    all_goals refine awpOps_cons (op_mv rfl (Conv.of rfl) rfl) ?_
    all_goals refine awpOps_cons (op_mv rfl (Conv.of rfl) rfl) ?_
    all_goals refine awpOps_cons (op_callO fb38 (.cons rfl (Conv.of rfl) (.nil _)) (l71Pay_ct (nx (nx s.2.2 1) 1) (hf2.weak (by omega))) (olsk rfl ols0) (oksk (by exact obOk_cell) oks0) (oksk (by exact obOk_cell) oks0) rfl (argOb rfl rfl rfl argO0) (fun o ho => by cases ho) rfl) ?_
    all_goals refine awpOps_cons (op_build (.cons f38_0 rfl (Conv.of rfl) (.cons f38_1 rfl (Conv.of rfl) (.nil _))) z38 rfl pl38 rfl) ?_
    all_goals refine awpOps_cons (op_bsl sl26 z38 (.cons rfl (Conv.of rfl) (.nil _)) rfl (by decide) rfl) ?_
    all_goals refine awpOps_cons (op_app sl26 z38 ul26 rfl rfl rfl (by (simp; omega)) (by (simp; omega)) rfl rfl) ?_
    all_goals refine awpOps_cons (op_asl rfl rfl rfl rfl) ?_
    all_goals refine awpOps_nil ?_
    all_goals refine awp_region (id := 5) ?_
    all_goals refine awpOps_cons (op_mv rfl (Conv.of rfl) rfl) ?_
    all_goals refine awpOps_cons (op_sub rfl rfl rfl (by omega)) ?_
    all_goals refine awpOps_cons (op_as rfl (Conv.of rfl) rfl) ?_
    all_goals refine awpOps_nil ?_
    subst hs
    repeat first | refine nx_seq ?_ | refine nx_block ?_
    exact ⟨n_ - 1, _, by omega, ⟨k + 1, by omega, rfl⟩, Le.mk rfl (tlb rfl rfl rfl (tle rfl (by (show AV.v _ = AV.v _; simp only [chIter, chStep, nx_nx]; rfl)) rfl (tle rfl (by rfl) rfl (tle rfl (by (show AV.v _ = AV.v _; congr 1; omega)) rfl tln)))) (olk (by (show Wt.Obj.cell _ = Wt.Obj.cell _; simp only [chIter, chStep, nx_nx]; rfl)) (by exact obOk_cell) oln) (hS_sub (a := [(0, .cell r)]) rfl)⟩
  · refine awp_exit ?_
    repeat refine ex_seq ?_
    refine ex_block ?_
    have hge : pk r 7 - (k : Int) ≤ 0 := by have := of_decide_eq_false h; omega
    have hk' : k = (pk r 7).toNat := by omega
    all_goals refine awp_seq (awp_region (id := 8) ?_)
    all_goals refine awpOps_cons (op_mvl rfl rfl rfl rfl) ?_
    all_goals refine awpOps_cons (op_asl rfl rfl rfl rfl) ?_
    all_goals refine awpOps_nil ?_
    refine awp_ret ?_
    repeat first | refine rt_seq ?_ | refine rt_block ?_
    subst hk'
    exact finO1 [(0, .cell (chainR r))] (.v rfl Conv.ol) (fun o ho => by cases ho) (olk rfl obOk_cell oln) (hS_keys rfl) rfl
/-- What is drawn for a world. -/
abbrev ro (r : Rd) (w : Wrld) : List (Nat × Wt.Obj) := [(0, .cell r), (1, .arr (w.nodes.map sN))]
set_option maxHeartbeats 4000000 in
theorem l72Forge_ct (r : Rd) (w : Wrld) (hw : FineX w) (hp : Far 700000 r) : Ct Try.prog 120 [.box 0 (IsLens.whole Rd), .v (fW w)] (obs (ro r w)) (fun r1 h1 => ∃ (v : Vote) (r' : Rd), r1 = .v v ∧ h1 = obs (ro r' w) ∧ v.chain.length ≤ 100 ∧ r.p ≤ r'.p ∧ r'.p ≤ r.p + 100) := by
  have h4 := hw.four
  have hgl := hw.fine.log
  have hgll := hgl.len
  have hln : ((w.nodes.map sN).length : Int) = 4 := by simp [h4]
  refine Ct.intro Try.func120 rfl rfl ?_
  all_goals refine awp_seq (awp_region (id := 0) ?_)
  all_goals refine awpOps_cons (op_box (o := 5) ty61_WrldS rfl (Conv.of rfl) rfl rfl) ?_
  all_goals refine awpOps_cons (op_alloc (o := 6) z28 rfl rfl) ?_
  all_goals refine awpOps_nil ?_
  all_goals refine awp_seq (awp_region (id := 1) ?_)
  all_goals refine awpOps_cons (op_mv rfl (Conv.of rfl) rfl) ?_
  all_goals refine awpOps_cons (op_callO fb95 (.cons rfl (Conv.of rfl) (.nil _)) (l71Chain_ct r (hp.weak (by omega))) (olsk rfl ols0) (oksk (by exact obOk_cell) oks0) (oksk (by exact obOk_cell) oks0) rfl (argOb rfl rfl rfl argO0) (fun o ho => by cases ho) rfl) ?_
  all_goals refine awpOps_cons (op_as rfl (Conv.of rfl) rfl) ?_
  all_goals refine awpOps_nil ?_
  have hf1 := chainR_far hp (by omega)
  have hcl := chainV_len hp (by omega)
  have hr1 : r.p ≤ (chainR r).p ∧ (chainR r).p ≤ r.p + 31 := by
    have := (pk_bd hp (by omega) 7).2 (by omega)
    have := (pk_bd hp (by omega) 7).1
    rw [chainR_eq]; simp only [nx]; omega
  generalize chainR r = r1 at *
  generalize chainV r = c1 at *
  refine awp_seq_ex (ι := List Itm × Rd) (fun i => mkSt 54 [(0, .box 0 (IsLens.whole Rd)), (3, .box 5 (IsLens.whole WrldS)), (4, .box 6 (IsLens.whole Vote)), (5, .v i.1)] [(0, .cell i.2), (1, .arr (w.nodes.map sN)), (5, .cell (fW w)), (6, .cell Vote.zero)]) (fun i => i.1.length ≤ 50 ∧ r.p ≤ i.2.p ∧ i.2.p ≤ r.p + 40) ?_ ?_
  · have hk1 := pk_bd hf1 (by omega) 4
    all_goals refine awp_seq (awp_region (id := 2) ?_)
    all_goals refine awpOps_cons (op_fab f61_2_WrldS rfl rfl) ?_
    all_goals refine awpOps_cons (op_ldl ty23_OListVote rfl rfl rfl) ?_
    all_goals refine awpOps_cons (op_len sl23 rfl rfl) ?_
    all_goals refine awpOps_cons (op_gtr rfl rfl rfl) ?_
    all_goals refine awpOps_cons (op_mv rfl (Conv.of rfl) rfl) ?_
    all_goals refine g_split (t := 13) rfl (fun h => ?_) (fun h => ?_)
    all_goals first | refine awpOps_cons (g_off rfl rfl rfl rfl rfl) ?_ | refine awpOps_cons (g_on rfl rfl rfl (op_mv rfl (Conv.of rfl) rfl)) ?_
    all_goals first | refine awpOps_cons (g_off rfl rfl rfl rfl rfl) ?_ | refine awpOps_cons (g_on rfl rfl rfl (op_callO fb33 (.cons rfl (Conv.of rfl) (.cons rfl (Conv.of rfl) (.nil _))) (pick_ct r1 4 (by unfold Far at hf1; omega)) (olsk rfl ols0) (oksk (by exact obOk_cell) oks0) (oksk (by exact obOk_cell) oks0) rfl (argOb rfl rfl rfl (argOk' rfl rfl argO0)) (fun o ho => by cases ho) rfl)) ?_
    all_goals first | refine awpOps_cons (g_off rfl rfl rfl rfl rfl) ?_ | refine awpOps_cons (g_on rfl rfl rfl (op_gtr rfl rfl rfl)) ?_
    all_goals refine awpOps_cons (op_pick rfl rfl rfl rfl) ?_
    all_goals refine awpOps_nil ?_
    · refine awp_cond rfl (fun h2 => ?_) (fun h2 => ?_)
      · have hlg : 0 < w.log.length := by have := of_decide_eq_true h; simpa [fW] using this
        have hf2 : Far (700000 + 32) (nx r1 1) := hf1.nx (by omega) (by omega)
        have hk2 := pk_bd hf2 (by omega) (w.log.length : Int)
        have hk3 := hk2.2 (by omega)
        have hv : w.log[(pk (nx r1 1) (w.log.length : Int)).toNat]? = some (w.log[(pk (nx r1 1) (w.log.length : Int)).toNat]'(by omega)) := List.getElem?_eq_getElem (by omega)
        generalize hvv : w.log[(pk (nx r1 1) (w.log.length : Int)).toNat]'(by omega) = v at hv
        have hvo := hgl.ok v (List.mem_of_getElem? hv)
        have hvc := chainOk_len (voteOk_chain hvo)
        all_goals refine dr_start (id := 3) ?_
        all_goals refine dr_cons (op_fab f61_2_WrldS rfl rfl) ?_
        all_goals refine dr_cons (op_ldl ty23_OListVote rfl rfl rfl) ?_
        all_goals refine dr_cons (op_mv rfl (Conv.of rfl) rfl) ?_
        all_goals refine dr_cons (op_fab f61_2_WrldS rfl rfl) ?_
        all_goals refine dr_cons (op_ldl ty23_OListVote rfl rfl rfl) ?_
        all_goals refine dr_cons (op_len sl23 rfl rfl) ?_
        all_goals refine dr_cons (op_callO fb33 (.cons rfl (Conv.of rfl) (.cons rfl (Conv.of rfl) (.nil _))) (pick_ct (nx r1 1) (w.log.length : Int) (by unfold Far at hf2; omega)) (olsk rfl ols0) (oksk (by exact obOk_cell) oks0) (oksk (by exact obOk_cell) oks0) rfl (argOb rfl rfl rfl (argOk' rfl rfl argO0)) (fun o ho => by cases ho) rfl) ?_
        all_goals refine dr_cons (op_ix sl23 rfl rfl rfl hk2.1 hv) ?_
        all_goals refine dr_cons (op_far f28_1 rfl rfl) ?_
        all_goals refine dr_cons (op_ldr ty26 rfl rfl) ?_
        all_goals refine dr_cons (op_call fb36 (.cons rfl (Conv.of rfl) (.nil _)) (l1Copy_ct v.chain (by omega)) (argOk rfl rfl argOk0) rfl rfl) ?_
        all_goals refine dr_cons (op_asl rfl rfl rfl rfl) ?_
        all_goals refine dr_nil mixed rfl ?_
        exact nx_seq ⟨(v.chain, nx (nx r1 1) 1), ⟨by show v.chain.length ≤ 50; omega, by simp only [nx]; omega, by simp only [nx]; omega⟩, Le.mk rfl (tlb rfl rfl rfl (tlb rfl rfl rfl (tlb rfl rfl rfl (tlc rfl (Conv.ol) rfl tln)))) (olk rfl (by exact obOk_cell) (olk rfl (by exact obOkNs) (olk rfl (by exact obOkS rfl) (olk rfl (by exact obOk_cell) oln)))) (hS_sub (a := ro r w) rfl)⟩
      · refine awp_skip ?_
        exact nx_seq ⟨(c1, nx r1 1), ⟨by show c1.length ≤ 50; omega, by simp only [nx]; omega, by simp only [nx]; omega⟩, Le.mk rfl (tlb rfl rfl rfl (tlb rfl rfl rfl (tlb rfl rfl rfl (tle rfl (rfl) rfl tln)))) (olk rfl (by exact obOk_cell) (olk rfl (by exact obOkNs) (olk rfl (by exact obOkS rfl) (olk rfl (by exact obOk_cell) oln)))) (hS_sub (a := ro r w) rfl)⟩
    · refine awp_cond rfl (fun h2 => absurd h2 (by decide)) (fun h2 => ?_)
      refine awp_skip ?_
      exact nx_seq ⟨(c1, r1), ⟨by show c1.length ≤ 50; omega, hr1.1, by show r1.p ≤ r.p + 40; omega⟩, Le.mk rfl (tlb rfl rfl rfl (tlb rfl rfl rfl (tlb rfl rfl rfl (tle rfl (rfl) rfl tln)))) (olk rfl (by exact obOk_cell) (olk rfl (by exact obOkNs) (olk rfl (by exact obOkS rfl) (olk rfl (by exact obOk_cell) oln)))) (hS_sub (a := ro r w) rfl)⟩
  · rintro ⟨c2, r2⟩ ⟨g1, g2, g3⟩
    simp only at g1 g2 g3 ⊢
    have hf2 : Far (700000 + 40) r2 := by unfold Far at hp ⊢; omega
    refine awp_seq_ex (ι := List Itm × Rd) (fun i => mkSt 54 [(0, .box 0 (IsLens.whole Rd)), (3, .box 5 (IsLens.whole WrldS)), (4, .box 6 (IsLens.whole Vote)), (5, .v i.1)] [(0, .cell i.2), (1, .arr (w.nodes.map sN)), (5, .cell (fW w)), (6, .cell Vote.zero)]) (fun i => i.1.length ≤ 60 ∧ r.p ≤ i.2.p ∧ i.2.p ≤ r.p + 50) ?_ ?_
    · all_goals refine awp_seq (awp_region (id := 4) ?_)
      all_goals refine awpOps_cons (op_mv rfl (Conv.of rfl) rfl) ?_
      all_goals refine awpOps_cons (op_callO fb33 (.cons rfl (Conv.of rfl) (.cons rfl (Conv.of rfl) (.nil _))) (pick_ct r2 2 (by unfold Far at hf2; omega)) (olsk rfl ols0) (oksk (by exact obOk_cell) oks0) (oksk (by exact obOk_cell) oks0) rfl (argOb rfl rfl rfl (argOk' rfl rfl argO0)) (fun o ho => by cases ho) rfl) ?_
      all_goals refine awpOps_cons (op_eql rfl rfl rfl) ?_
      all_goals refine awpOps_nil ?_
      refine awp_cond rfl (fun h2 => ?_) (fun h2 => ?_)
      · have hf3 : Far (700000 + 41) (nx r2 1) := hf2.nx (by omega) (by omega)
        have hf4 : Far (700000 + 42) (nx (nx r2 1) 1) := hf3.nx (by omega) (by omega)
        have hk2 := pk_bd hf3 (by omega) 4
        have hk3 := hk2.2 (by omega)
        have hlt : (pk (nx r2 1) 4).toNat < w.nodes.length := by omega
        have hx : w.nodes[(pk (nx r2 1) 4).toNat]? = some w.nodes[(pk (nx r2 1) 4).toNat] := List.getElem?_eq_getElem hlt
        generalize hnn : w.nodes[(pk (nx r2 1) 4).toNat] = n at hx
        have hx' : (w.nodes.map sN)[(pk (nx r2 1) 4).toNat]? = some (sN n) := by rw [List.getElem?_map, hx]; rfl
        have hgd := hw.fine.seen n (List.mem_of_getElem? hx)
        have htip := hgd.tipS
        all_goals refine awp_seq (dr_start (id := 5) ?_)
        all_goals refine dr_cons (op_fab f61_1_WrldS rfl rfl) ?_
        all_goals refine dr_cons (op_ld ty59_NRef rfl rfl rfl) ?_
        all_goals refine dr_cons (op_mv rfl (Conv.of rfl) rfl) ?_
        all_goals refine dr_cons (op_callO fb33 (.cons rfl (Conv.of rfl) (.cons rfl (Conv.of rfl) (.nil _))) (pick_ct (nx r2 1) 4 (by unfold Far at hf3; omega)) (olsk rfl ols0) (oksk (by exact obOk_cell) oks0) (oksk (by exact obOk_cell) oks0) rfl (argOb rfl rfl rfl (argOk' rfl rfl argO0)) (fun o ho => by cases ho) rfl) ?_
        all_goals refine dr_cons (op_ixA sl59_NodS rfl rfl rfl rfl ⟨hk2.1, by omega⟩) ?_
        all_goals refine dr_cons (op_ldde ty25_NodS rfl rfl hx' rfl) ?_
        all_goals refine dr_cons (op_alloc (o := 7) z25_NodS rfl rfl) ?_
        all_goals refine dr_cons (op_st ty25_NodS rfl rfl (Conv.of rfl) rfl) ?_
        all_goals refine dr_nil mixed rfl ?_
        all_goals refine dr_start (id := 6) ?_
        all_goals refine dr_cons (op_fab f25_3_NodS rfl rfl) ?_
        all_goals refine dr_cons (op_ldl ty23_OListVote rfl rfl rfl) ?_
        all_goals refine dr_cons (op_call fb37 (.cons rfl (Conv.of rfl) (.nil _)) (l11Tip_ct n.seen hgd.l hgd.v) (argOk rfl rfl argOk0) rfl rfl) ?_
        all_goals refine dr_cons (op_call fb36 (.cons rfl (Conv.of rfl) (.nil _)) (l1Copy_ct (tipOfS n.seen) (by omega)) (argOk rfl rfl argOk0) rfl rfl) ?_
        all_goals refine dr_cons (op_fab f61_0_WrldS rfl rfl) ?_
        all_goals refine dr_cons (op_ld ty3 rfl rfl rfl) ?_
        all_goals refine dr_cons (op_max rfl rfl rfl) ?_
        all_goals refine dr_cons (op_mv rfl (Conv.of rfl) rfl) ?_
        all_goals refine dr_cons (op_callO fb38 (.cons rfl (Conv.of rfl) (.nil _)) (l71Pay_ct (nx (nx r2 1) 1) (hf4.weak (by omega))) (olsk rfl ols0) (oksk (by exact obOk_cell) oks0) (oksk (by exact obOk_cell) oks0) rfl (argOb rfl rfl rfl argO0) (fun o ho => by cases ho) rfl) ?_
        all_goals refine dr_cons (op_build (.cons f38_0 rfl (Conv.of rfl) (.cons f38_1 rfl (Conv.of rfl) (.nil _))) z38 rfl pl38 rfl) ?_
        all_goals refine dr_cons (op_bsl sl26 z38 (.cons rfl (Conv.of rfl) (.nil _)) rfl (by decide) rfl) ?_
        all_goals refine dr_cons (op_app sl26 z38 ul26 rfl rfl rfl (by (simp; omega)) (by (simp; omega)) rfl rfl) ?_
        all_goals refine dr_cons (op_asl rfl rfl rfl rfl) ?_
        all_goals refine dr_nil mixed rfl ?_
        exact nx_seq ⟨(tipOfS n.seen ++ [⟨max w.epoch 1, payV (nx (nx r2 1) 1)⟩], nx (nx (nx r2 1) 1) 3), ⟨by simp; omega, by simp only [nx]; omega, by simp only [nx]; omega⟩, Le.mk rfl (tlb rfl rfl rfl (tlb rfl rfl rfl (tlb rfl rfl rfl (tlc rfl (Conv.ol) rfl tln)))) (olk rfl (by exact obOk_cell) (olk rfl (by exact obOkNs) (olk rfl (by exact obOkS rfl) (olk rfl (by exact obOk_cell) oln)))) (hS_sub (a := ro r w) rfl)⟩
      · refine awp_skip ?_
        exact nx_seq ⟨(c2, nx r2 1), ⟨by show c2.length ≤ 60; omega, by simp only [nx]; omega, by simp only [nx]; omega⟩, Le.mk rfl (tlb rfl rfl rfl (tlb rfl rfl rfl (tlb rfl rfl rfl (tle rfl (rfl) rfl tln)))) (olk rfl (by exact obOk_cell) (olk rfl (by exact obOkNs) (olk rfl (by exact obOkS rfl) (olk rfl (by exact obOk_cell) oln)))) (hS_sub (a := ro r w) rfl)⟩
    · rintro ⟨c3, r3⟩ ⟨k1, k2, k3⟩
      simp only at k1 k2 k3 ⊢
      all_goals refine awp_seq (awp_region (id := 7) ?_)
      all_goals refine awpOps_cons (op_fab f61_3_WrldS rfl rfl) ?_
      all_goals refine awpOps_cons (op_ld ty3 rfl rfl rfl) ?_
      all_goals refine awpOps_cons (op_mv rfl (Conv.of rfl) rfl) ?_
      all_goals refine awpOps_cons (op_build (.cons f28_0 rfl (Conv.of rfl) (.cons f28_1 rfl (Conv.of rfl) (.nil _))) z28 rfl pl28 rfl) ?_
      all_goals refine awpOps_cons (op_st ty28 rfl rfl (Conv.of rfl) rfl) ?_
      all_goals refine awpOps_nil ?_
      refine awp_ret ?_
      repeat first | refine rt_seq ?_ | refine rt_block ?_
      refine ⟨_, _, res1 (ol := ro r3 w) (.rc ty28 rfl rfl) (fun o ho => by cases ho) (olk rfl obOk_cell (olk rfl obOkNs oln)) (hS_keys rfl), _, r3, rfl, rfl, ?_, k2, by omega⟩
      show c3.length ≤ 100
      omega
end Go.Proofs.Ytmabpmlcclgecaa

/- The reference: draws of events. -/
set_option linter.unusedVariables false
set_option linter.unusedSimpArgs false
namespace Go.Proofs.Ytmabpmlcclgecaa
open Go Go.Wt
set_option maxHeartbeats 4000000 in
theorem l72Event_ct (r : Rd) (w : Wrld) (hw : FineX w) (hp : Far 600000 r) : Ct Try.prog 94 [.box 0 (IsLens.whole Rd), .v (fW w)] (obs (ro r w)) (fun r1 h1 => ∃ (e : Evt) (r' : Rd), r1 = .v e ∧ h1 = obs (ro r' w) ∧ r.p ≤ r'.p ∧ r'.p ≤ r.p + 120) := by
  have hep := hw.ep
  have hgll := hw.ll
  have hb8 := pk_bd hp (by omega) 8
  refine Ct.intro Try.func94 rfl rfl ?_
  all_goals refine awp_seq (awp_region (id := 0) ?_)
  all_goals refine awpOps_cons (op_box (o := 5) ty61_WrldS rfl (Conv.of rfl) rfl rfl) ?_
  all_goals refine awpOps_cons (op_alloc (o := 6) z110 rfl rfl) ?_
  all_goals refine awpOps_nil ?_
  all_goals refine awp_seq (awp_region (id := 1) ?_)
  all_goals refine awpOps_cons (op_fab f61_2_WrldS rfl rfl) ?_
  all_goals refine awpOps_cons (op_ldl ty23_OListVote rfl rfl rfl) ?_
  all_goals refine awpOps_cons (op_len sl23 rfl rfl) ?_
  all_goals refine awpOps_cons (op_as rfl (Conv.of rfl) rfl) ?_
  all_goals refine awpOps_nil ?_
  refine awp_seq_ex (ι := Rd) (fun i => mkSt 64 [(0, .box 0 (IsLens.whole Rd)), (3, .box 5 (IsLens.whole WrldS)), (4, .box 6 (IsLens.whole Evt))] [(0, .cell i), (1, .arr (w.nodes.map sN)), (5, .cell (fW w)), (6, .cell Evt.zero)]) (fun i => r.p ≤ i.p ∧ i.p ≤ r.p + 1) ?_ ?_
  · all_goals refine awp_seq (awp_region (id := 2) ?_)
    all_goals refine awpOps_cons (op_mv rfl (Conv.of rfl) rfl) ?_
    all_goals refine awpOps_cons (op_gtr rfl rfl rfl) ?_
    all_goals refine awpOps_cons (op_mv rfl (Conv.of rfl) rfl) ?_
    all_goals refine g_split (t := 12) rfl (fun h => ?_) (fun h => ?_)
    all_goals first | refine awpOps_cons (g_off rfl rfl rfl rfl rfl) ?_ | refine awpOps_cons (g_on rfl rfl rfl (op_mv rfl (Conv.of rfl) rfl)) ?_
    all_goals first | refine awpOps_cons (g_off rfl rfl rfl rfl rfl) ?_ | refine awpOps_cons (g_on rfl rfl rfl (op_callO fb33 (.cons rfl (Conv.of rfl) (.cons rfl (Conv.of rfl) (.nil _))) (pick_ct r 8 (by unfold Far at hp; omega)) (olsk rfl ols0) (oksk (by exact obOk_cell) oks0) (oksk (by exact obOk_cell) oks0) rfl (argOb rfl rfl rfl (argOk' rfl rfl argO0)) (fun o ho => by cases ho) rfl)) ?_
    all_goals first | refine awpOps_cons (g_off rfl rfl rfl rfl rfl) ?_ | refine awpOps_cons (g_on rfl rfl rfl (op_lss rfl rfl rfl)) ?_
    all_goals refine awpOps_cons (op_pick rfl rfl rfl rfl) ?_
    all_goals refine awpOps_nil ?_
    · refine awp_cond rfl (fun h2 => ?_) (fun h2 => ?_)
      · have hlg : 0 < w.log.length := by have := of_decide_eq_true h; simpa [fW] using this
        have hf1 : Far 600001 (nx r 1) := hp.nx (by omega) (by omega)
        have hf2 : Far 600002 (nx (nx r 1) 1) := hf1.nx (by omega) (by omega)
        have hf3 : Far 600003 (nx (nx (nx r 1) 1) 1) := hf2.nx (by omega) (by omega)
        have k1 := pk_bd hf1 (by omega) (min (w.log.length : Int) 6)
        have k2 := k1.2 (by omega)
        have k3 := pk_bd hf3 (by omega) (w.log.length : Int)
        have k4 := k3.2 (by omega)
        all_goals refine awp_seq (awp_region (id := 3) ?_)
        all_goals refine awpOps_cons (op_mv rfl (Conv.of rfl) rfl) ?_
        all_goals refine awpOps_cons (op_sub rfl rfl rfl (by (simp only [fW]; omega))) ?_
        all_goals refine awpOps_cons (op_mv rfl (Conv.of rfl) rfl) ?_
        all_goals refine awpOps_cons (op_mv rfl (Conv.of rfl) rfl) ?_
        all_goals refine awpOps_cons (op_min rfl rfl rfl) ?_
        all_goals refine awpOps_cons (op_callO fb33 (.cons rfl (Conv.of rfl) (.cons rfl (Conv.of rfl) (.nil _))) (pick_ct (nx r 1) (min (w.log.length : Int) 6) (by unfold Far at hf1; omega)) (olsk rfl ols0) (oksk (by exact obOk_cell) oks0) (oksk (by exact obOk_cell) oks0) rfl (argOb rfl rfl rfl (argOk' rfl rfl argO0)) (fun o ho => by cases ho) rfl) ?_
        all_goals refine awpOps_cons (op_sub rfl rfl rfl (by (simp only [fW]; omega))) ?_
        all_goals refine awpOps_cons (op_as rfl (Conv.of rfl) rfl) ?_
        all_goals refine awpOps_nil ?_
        refine awp_seq_ex (ι := Int × Rd) (fun i => mkSt 64 [(0, .box 0 (IsLens.whole Rd)), (3, .box 5 (IsLens.whole WrldS)), (4, .box 6 (IsLens.whole Evt)), (6, .v i.1)] [(0, .cell i.2), (1, .arr (w.nodes.map sN)), (5, .cell (fW w)), (6, .cell Evt.zero)]) (fun i => r.p ≤ i.2.p ∧ i.2.p ≤ r.p + 4) ?_ ?_
        · all_goals refine awp_seq (awp_region (id := 4) ?_)
          all_goals refine awpOps_cons (op_mv rfl (Conv.of rfl) rfl) ?_
          all_goals refine awpOps_cons (op_callO fb33 (.cons rfl (Conv.of rfl) (.cons rfl (Conv.of rfl) (.nil _))) (pick_ct (nx (nx r 1) 1) 4 (by unfold Far at hf2; omega)) (olsk rfl ols0) (oksk (by exact obOk_cell) oks0) (oksk (by exact obOk_cell) oks0) rfl (argOb rfl rfl rfl (argOk' rfl rfl argO0)) (fun o ho => by cases ho) rfl) ?_
          all_goals refine awpOps_cons (op_eql rfl rfl rfl) ?_
          all_goals refine awpOps_nil ?_
          refine awp_cond rfl (fun h2 => ?_) (fun h2 => ?_)
          · all_goals refine awp_region (id := 5) ?_
            all_goals refine awpOps_cons (op_mv rfl (Conv.of rfl) rfl) ?_
            all_goals refine awpOps_cons (op_mv rfl (Conv.of rfl) rfl) ?_
            all_goals refine awpOps_cons (op_callO fb33 (.cons rfl (Conv.of rfl) (.cons rfl (Conv.of rfl) (.nil _))) (pick_ct (nx (nx (nx r 1) 1) 1) (w.log.length : Int) (by unfold Far at hf3; omega)) (olsk rfl ols0) (oksk (by exact obOk_cell) oks0) (oksk (by exact obOk_cell) oks0) rfl (argOb rfl rfl rfl (argOk' rfl rfl argO0)) (fun o ho => by cases ho) rfl) ?_
            all_goals refine awpOps_cons (op_as rfl (Conv.of rfl) rfl) ?_
            all_goals refine awpOps_nil ?_
            exact nx_seq ⟨(_, nx (nx (nx (nx r 1) 1) 1) 1), ⟨by simp only [nx]; omega, by simp only [nx]; omega⟩, Le.mk rfl (tlb rfl rfl rfl (tlb rfl rfl rfl (tlb rfl rfl rfl (tle rfl (rfl) rfl tln)))) (olk rfl (by exact obOk_cell) (olk rfl (by exact obOkNs) (olk rfl (by exact obOkS rfl) (olk rfl (by exact obOk_cell) oln)))) (hS_sub (a := ro r w) rfl)⟩
          · refine awp_skip ?_
            exact nx_seq ⟨(_, nx (nx (nx r 1) 1) 1), ⟨by simp only [nx]; omega, by simp only [nx]; omega⟩, Le.mk rfl (tlb rfl rfl rfl (tlb rfl rfl rfl (tlb rfl rfl rfl (tle rfl (rfl) rfl tln)))) (olk rfl (by exact obOk_cell) (olk rfl (by exact obOkNs) (olk rfl (by exact obOkS rfl) (olk rfl (by exact obOk_cell) oln)))) (hS_sub (a := ro r w) rfl)⟩
        · rintro ⟨a, r2⟩ ⟨g1, g2⟩
          simp only at g1 g2 ⊢
          have hf4 : Far 600005 r2 := by unfold Far at hp ⊢; omega
          have k5 := pk_bd hf4 (by omega) 4
          have k6 := k5.2 (by omega)
          all_goals refine awp_seq (awp_region (id := 6) ?_)
          all_goals refine awpOps_cons (op_mv rfl (Conv.of rfl) rfl) ?_
          all_goals refine awpOps_cons (op_mv rfl (Conv.of rfl) rfl) ?_
          all_goals refine awpOps_cons (op_callO fb33 (.cons rfl (Conv.of rfl) (.cons rfl (Conv.of rfl) (.nil _))) (pick_ct r2 4 (by unfold Far at hf4; omega)) (olsk rfl ols0) (oksk (by exact obOk_cell) oks0) (oksk (by exact obOk_cell) oks0) rfl (argOb rfl rfl rfl (argOk' rfl rfl argO0)) (fun o ho => by cases ho) rfl) ?_
          all_goals refine awpOps_cons (op_add rfl rfl rfl (by omega)) ?_
          all_goals refine awpOps_cons (op_build (.cons f110_0 rfl (Conv.of rfl) (.cons f110_1 rfl (Conv.of rfl) (.cons f110_2 rfl (Conv.of rfl) (.nil _)))) z110 rfl pl110 rfl) ?_
          all_goals refine awpOps_cons (op_st ty110 rfl rfl (Conv.of rfl) rfl) ?_
          all_goals refine awpOps_nil ?_
          refine awp_ret ?_
          repeat first | refine rt_seq ?_ | refine rt_block ?_
          refine ⟨_, _, res1 (ol := ro (nx r2 1) w) (.rc ty110 rfl rfl) (fun o ho => by cases ho) (olk rfl obOk_cell (olk rfl obOkNs oln)) (hS_keys rfl), _, nx r2 1, rfl, rfl, by simp only [nx]; omega, by simp only [nx]; omega⟩
      · refine awp_skip ?_
        exact nx_seq ⟨nx r 1, ⟨by simp only [nx]; omega, by simp only [nx]; omega⟩, Le.mk rfl (tlb rfl rfl rfl (tlb rfl rfl rfl (tlb rfl rfl rfl tln))) (olk rfl (by exact obOk_cell) (olk rfl (by exact obOkNs) (olk rfl (by exact obOkS rfl) (olk rfl (by exact obOk_cell) oln)))) (hS_sub (a := ro r w) rfl)⟩
    · refine awp_cond rfl (fun h2 => absurd h2 (by decide)) (fun h2 => ?_)
      refine awp_skip ?_
      exact nx_seq ⟨r, ⟨by omega, by omega⟩, Le.mk rfl (tlb rfl rfl rfl (tlb rfl rfl rfl (tlb rfl rfl rfl tln))) (olk rfl (by exact obOk_cell) (olk rfl (by exact obOkNs) (olk rfl (by exact obOkS rfl) (olk rfl (by exact obOk_cell) oln)))) (hS_sub (a := ro r w) rfl)⟩
  · rintro r2 ⟨g1, g2⟩
    have hf2 : Far 600001 r2 := by unfold Far at hp ⊢; omega
    have k5 := pk_bd hf2 (by omega) 8
    have k6 := k5.2 (by omega)
    have hf3 : Far 600002 (nx r2 1) := hf2.nx (by omega) (by omega)
    have hf4 : Far 600003 (nx (nx r2 1) 1) := hf3.nx (by omega) (by omega)
    have k7 := pk_bd hf3 (by omega) 4
    have k8 := k7.2 (by omega)
    all_goals refine awp_seq (awp_seq (awp_region (id := 7) ?_))
    all_goals refine awpOps_cons (op_mv rfl (Conv.of rfl) rfl) ?_
    all_goals refine awpOps_cons (op_callO fb33 (.cons rfl (Conv.of rfl) (.cons rfl (Conv.of rfl) (.nil _))) (pick_ct r2 8 (by unfold Far at hf2; omega)) (olsk rfl ols0) (oksk (by exact obOk_cell) oks0) (oksk (by exact obOk_cell) oks0) rfl (argOb rfl rfl rfl (argOk' rfl rfl argO0)) (fun o ho => by cases ho) rfl) ?_
    all_goals refine awpOps_nil ?_
    generalize pk r2 8 = k at k5 k6 ⊢
    refine awp_block ?_
    all_goals refine awp_seq (awp_seq (awp_region (id := 8) ?_))
    all_goals refine awpOps_cons (op_eql rfl rfl rfl) ?_
    all_goals refine awpOps_cons (op_as rfl (Conv.of rfl) rfl) ?_
    all_goals refine awpOps_nil ?_
    refine nx_seq ?_
    refine awp_to (s' := mkSt 64 [(0, .box 0 (IsLens.whole Rd)), (3, .box 5 (IsLens.whole WrldS)), (4, .box 6 (IsLens.whole Evt)), (36, .v k), (37, .v (decide (k = 0) || decide (k = 1)))] [(0, .cell (nx r2 1)), (1, .arr (w.nodes.map sN)), (5, .cell (fW w)), (6, .cell Evt.zero)]) ?_ ?_
    · refine awp_cond rfl (fun h2 => ?_) (fun h2 => ?_)
      · refine awp_skip ?_
        all_goals exact Le.mk rfl (tlb rfl rfl rfl (tlb rfl rfl rfl (tlb rfl rfl rfl (tle rfl (rfl) rfl (tle rfl (by (simp_all; try rfl)) rfl tln))))) (olk rfl (by exact obOk_cell) (olk rfl (by exact obOkNs) (olk rfl (by exact obOkS rfl) (olk rfl (by exact obOk_cell) oln)))) (hS_sub (a := ro r w) rfl)
      · all_goals refine awp_region (id := 9) ?_
        all_goals refine awpOps_cons (op_eql rfl rfl rfl) ?_
        all_goals refine awpOps_cons (op_as rfl (Conv.of rfl) rfl) ?_
        all_goals refine awpOps_nil ?_
        all_goals exact Le.mk rfl (tlb rfl rfl rfl (tlb rfl rfl rfl (tlb rfl rfl rfl (tle rfl (rfl) rfl (tle rfl (by (simp_all; try rfl)) rfl tln))))) (olk rfl (by exact obOk_cell) (olk rfl (by exact obOkNs) (olk rfl (by exact obOkS rfl) (olk rfl (by exact obOk_cell) oln)))) (hS_sub (a := ro r w) rfl)
    · refine awp_cond rfl (fun h2 => ?_) (fun h2 => ?_)
      · all_goals refine awp_seq (awp_region (id := 10) ?_)
        all_goals refine awpOps_cons (op_build (.cons f110_0 rfl (Conv.of rfl) (.nil _)) z110 rfl pl110 rfl) ?_
        all_goals refine awpOps_cons (op_st ty110 rfl rfl (Conv.of rfl) rfl) ?_
        all_goals refine awpOps_nil ?_
        refine awp_ret ?_
        repeat first | refine rt_seq ?_ | refine rt_block ?_
        refine ⟨_, _, res1 (ol := ro (nx r2 1) w) (.rc ty110 rfl rfl) (fun o ho => by cases ho) (olk rfl obOk_cell (olk rfl obOkNs oln)) (hS_keys rfl), _, nx r2 1, rfl, rfl, by simp only [nx]; omega, by simp only [nx]; omega⟩
      · all_goals refine awp_seq (awp_seq (awp_region (id := 11) ?_))
        all_goals refine awpOps_cons (op_eql rfl rfl rfl) ?_
        all_goals refine awpOps_cons (op_as rfl (Conv.of rfl) rfl) ?_
        all_goals refine awpOps_nil ?_
        refine nx_seq ?_
        refine awp_to (s' := mkSt 64 [(0, .box 0 (IsLens.whole Rd)), (3, .box 5 (IsLens.whole WrldS)), (4, .box 6 (IsLens.whole Evt)), (36, .v k), (41, .v (decide (k = 2) || (decide (k = 3) || decide (k = 4))))] [(0, .cell (nx r2 1)), (1, .arr (w.nodes.map sN)), (5, .cell (fW w)), (6, .cell Evt.zero)]) ?_ ?_
        · refine awp_cond rfl (fun h3 => ?_) (fun h3 => ?_)
          · refine awp_skip ?_
            all_goals exact Le.mk rfl (tlb rfl rfl rfl (tlb rfl rfl rfl (tlb rfl rfl rfl (tle rfl (rfl) rfl (tle rfl (by (simp_all; try rfl)) rfl tln))))) (olk rfl (by exact obOk_cell) (olk rfl (by exact obOkNs) (olk rfl (by exact obOkS rfl) (olk rfl (by exact obOk_cell) oln)))) (hS_sub (a := ro r w) rfl)
          · all_goals refine awp_seq (awp_region (id := 12) ?_)
            all_goals refine awpOps_cons (op_eql rfl rfl rfl) ?_
            all_goals refine awpOps_cons (op_as rfl (Conv.of rfl) rfl) ?_
            all_goals refine awpOps_nil ?_
            refine awp_cond rfl (fun h4 => ?_) (fun h4 => ?_)
            · refine awp_skip ?_
              all_goals exact Le.mk rfl (tlb rfl rfl rfl (tlb rfl rfl rfl (tlb rfl rfl rfl (tle rfl (rfl) rfl (tle rfl (by (simp_all; try rfl)) rfl tln))))) (olk rfl (by exact obOk_cell) (olk rfl (by exact obOkNs) (olk rfl (by exact obOkS rfl) (olk rfl (by exact obOk_cell) oln)))) (hS_sub (a := ro r w) rfl)
            · all_goals refine awp_region (id := 13) ?_
              all_goals refine awpOps_cons (op_eql rfl rfl rfl) ?_
              all_goals refine awpOps_cons (op_as rfl (Conv.of rfl) rfl) ?_
              all_goals refine awpOps_nil ?_
              all_goals exact Le.mk rfl (tlb rfl rfl rfl (tlb rfl rfl rfl (tlb rfl rfl rfl (tle rfl (rfl) rfl (tle rfl (by (simp_all; try rfl)) rfl tln))))) (olk rfl (by exact obOk_cell) (olk rfl (by exact obOkNs) (olk rfl (by exact obOkS rfl) (olk rfl (by exact obOk_cell) oln)))) (hS_sub (a := ro r w) rfl)
        · refine awp_cond rfl (fun h3 => ?_) (fun h3 => ?_)
          · all_goals refine awp_seq (awp_region (id := 14) ?_)
            all_goals refine awpOps_cons (op_fab f61_0_WrldS rfl rfl) ?_
            all_goals refine awpOps_cons (op_ld ty3 rfl rfl rfl) ?_
            all_goals refine awpOps_cons (op_max rfl rfl rfl) ?_
            all_goals refine awpOps_cons (op_call fb35 (.cons rfl (Conv.of rfl) (.nil _)) (l3Leader_ct _ (by show -1000 ≤ max w.epoch 1 ∧ max w.epoch 1 ≤ 1000000; omega)) (argOk rfl rfl argOk0) rfl rfl) ?_
            all_goals refine awpOps_cons (op_mv rfl (Conv.of rfl) rfl) ?_
            all_goals refine awpOps_cons (op_callO fb38 (.cons rfl (Conv.of rfl) (.nil _)) (l71Pay_ct (nx r2 1) (hf3.weak (by omega))) (olsk rfl ols0) (oksk (by exact obOk_cell) oks0) (oksk (by exact obOk_cell) oks0) rfl (argOb rfl rfl rfl argO0) (fun o ho => by cases ho) rfl) ?_
            all_goals refine awpOps_cons (op_build (.cons f110_0 rfl (Conv.of rfl) (.cons f110_1 rfl (Conv.of rfl) (.cons f110_3 rfl (Conv.of rfl) (.nil _)))) z110 rfl pl110 rfl) ?_
            all_goals refine awpOps_cons (op_st ty110 rfl rfl (Conv.of rfl) rfl) ?_
            all_goals refine awpOps_nil ?_
            refine awp_ret ?_
            repeat first | refine rt_seq ?_ | refine rt_block ?_
            refine ⟨_, _, res1 (ol := ro (nx (nx r2 1) 3) w) (.rc ty110 rfl rfl) (fun o ho => by cases ho) (olk rfl obOk_cell (olk rfl obOkNs oln)) (hS_keys rfl), _, nx (nx r2 1) 3, rfl, rfl, by simp only [nx]; omega, by simp only [nx]; omega⟩
          · all_goals refine awp_seq (awp_region (id := 15) ?_)
            all_goals refine awpOps_cons (op_eql rfl rfl rfl) ?_
            all_goals refine awpOps_cons (op_as rfl (Conv.of rfl) rfl) ?_
            all_goals refine awpOps_nil ?_
            refine awp_cond rfl (fun h4 => ?_) (fun h4 => ?_)
            · all_goals refine awp_seq (awp_region (id := 16) ?_)
              all_goals refine awpOps_cons (op_mv rfl (Conv.of rfl) rfl) ?_
              all_goals refine awpOps_cons (op_callO fb33 (.cons rfl (Conv.of rfl) (.cons rfl (Conv.of rfl) (.nil _))) (pick_ct (nx r2 1) 4 (by unfold Far at hf3; omega)) (olsk rfl ols0) (oksk (by exact obOk_cell) oks0) (oksk (by exact obOk_cell) oks0) rfl (argOb rfl rfl rfl (argOk' rfl rfl argO0)) (fun o ho => by cases ho) rfl) ?_
              all_goals refine awpOps_cons (op_add rfl rfl rfl (by omega)) ?_
              all_goals refine awpOps_cons (op_mv rfl (Conv.of rfl) rfl) ?_
              all_goals refine awpOps_cons (op_callO fb38 (.cons rfl (Conv.of rfl) (.nil _)) (l71Pay_ct (nx (nx r2 1) 1) (hf4.weak (by omega))) (olsk rfl ols0) (oksk (by exact obOk_cell) oks0) (oksk (by exact obOk_cell) oks0) rfl (argOb rfl rfl rfl argO0) (fun o ho => by cases ho) rfl) ?_
              all_goals refine awpOps_cons (op_build (.cons f110_0 rfl (Conv.of rfl) (.cons f110_1 rfl (Conv.of rfl) (.cons f110_3 rfl (Conv.of rfl) (.nil _)))) z110 rfl pl110 rfl) ?_
              all_goals refine awpOps_cons (op_st ty110 rfl rfl (Conv.of rfl) rfl) ?_
              all_goals refine awpOps_nil ?_
              refine awp_ret ?_
              repeat first | refine rt_seq ?_ | refine rt_block ?_
              refine ⟨_, _, res1 (ol := ro (nx (nx (nx r2 1) 1) 3) w) (.rc ty110 rfl rfl) (fun o ho => by cases ho) (olk rfl obOk_cell (olk rfl obOkNs oln)) (hS_keys rfl), _, nx (nx (nx r2 1) 1) 3, rfl, rfl, by simp only [nx]; omega, by simp only [nx]; omega⟩
            · refine awp_skip ?_
              repeat first | refine nx_seq ?_ | refine nx_block ?_
              all_goals refine awp_seq (awp_region (id := 17) ?_)
              all_goals refine awpOps_cons (op_mv rfl (Conv.of rfl) rfl) ?_
              all_goals refine awpOps_cons (op_ldd ty61_WrldS rfl rfl rfl) ?_
              refine awpOps_callE (ι := Vote × Rd) (ro (nx r2 1) w) (fun i => .v i.1) (fun i => ro i.2 w) (fun i => i.1.chain.length ≤ 100 ∧ (nx r2 1).p ≤ i.2.p ∧ i.2.p ≤ (nx r2 1).p + 100) rfl fb120 (.cons rfl (Conv.of rfl) (.cons rfl (Conv.of rfl) (.nil _))) (l72Forge_ct (nx r2 1) w hw (hf3.weak (by omega))) (fun r h' ⟨v, r', e1, e2, e3, e4, e5⟩ => ⟨(v, r'), e1, e2, e3, e4, e5⟩) (olsk rfl (olsk rfl ols0)) (oksk obOk_cell (oksk obOkNs oks0)) (argOb rfl rfl rfl (argOb rfl rfl rfl argO0)) rfl (fun i => rfl) (fun i => oksk obOk_cell (oksk obOkNs oks0)) (fun i o ho => by cases ho) ?_
              rintro ⟨v, r3⟩ ⟨q1, q2, q3⟩
              simp only [nx] at q1 q2 q3 ⊢
              all_goals refine awpOps_cons (op_build (.cons f110_0 rfl (Conv.of rfl) (.cons f110_4 rfl (Conv.of rfl) (.nil _))) z110 rfl pl110 rfl) ?_
              all_goals refine awpOps_cons (op_st ty110 rfl rfl (Conv.of rfl) rfl) ?_
              all_goals refine awpOps_nil ?_
              refine awp_ret ?_
              repeat first | refine rt_seq ?_ | refine rt_block ?_
              refine ⟨_, _, res1 (ol := ro r3 w) (.rc ty110 rfl rfl) (fun o ho => by cases ho) (olk rfl obOk_cell (olk rfl obOkNs oln)) (hS_keys rfl), _, r3, rfl, rfl, by omega, by omega⟩
end Go.Proofs.Ytmabpmlcclgecaa
