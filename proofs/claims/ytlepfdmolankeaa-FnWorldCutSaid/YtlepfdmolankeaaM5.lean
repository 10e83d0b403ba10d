/- Part 5 of the proof: texts one behind the other. -/
import Derived.Test.YtlepfdmolankeaaM4
/- The program's words for outsiders. -/
set_option linter.unusedVariables false
set_option linter.unusedSimpArgs false
namespace Go.Proofs.Ytlepfdmolankeaa
open Go Go.Wt
theorem gdOf {l : List Vote} (ho : votesOk l = true) (hl : l.length ≤ 1000) : Gd l := ⟨hl, votesOk_mem ho⟩
theorem treeSure_ct (l : List Vote) (c : List Itm) : CtP Try.prog 21 [.v l, .v c] (.v (votesOk l && chainOk c && sure l c)) := by
  refine Ct.intro Try.func21 rfl rfl ?_
  all_goals refine awp_seq (awp_region (id := 0) ?_)
  all_goals refine awpOps_cons (op_as rfl (Conv.of rfl) rfl) ?_
  all_goals refine awpOps_nil ?_
  all_goals refine awp_seq (awp_region (id := 1) ?_)
  all_goals refine awpOps_cons (op_mv rfl (Conv.of rfl) rfl) ?_
  all_goals refine awpOps_cons (op_call fb44 (.cons rfl (Conv.of rfl) (.nil _)) (votesOk_ct _) (argOk rfl rfl argOk0) rfl rfl) ?_
  all_goals refine awpOps_cons (op_mv rfl (Conv.of rfl) rfl) ?_
  all_goals refine g_split (t := 7) rfl (fun h => ?_) (fun h => ?_)
  all_goals first | refine awpOps_cons (g_off rfl rfl rfl rfl rfl) ?_ | refine awpOps_cons (g_on rfl rfl rfl (op_mv rfl (Conv.of rfl) rfl)) ?_
  all_goals first | refine awpOps_cons (g_off rfl rfl rfl rfl rfl) ?_ | refine awpOps_cons (g_on rfl rfl rfl (op_call fb45 (.cons rfl (Conv.of rfl) (.nil _)) (chainOk_ct _) (argOk rfl rfl argOk0) rfl rfl)) ?_
  all_goals refine awpOps_cons (op_pick rfl rfl rfl rfl) ?_
  all_goals refine awpOps_cons (op_mv rfl (Conv.of rfl) rfl) ?_
  all_goals first | refine g_lit (t := 11) (b := false) rfl ?_ | refine g_split (t := 11) rfl (fun h => ?_) (fun h => ?_)
  all_goals first | refine awpOps_cons (g_off rfl rfl rfl rfl rfl) ?_ | refine awpOps_cons (g_on rfl rfl rfl (op_mv rfl (Conv.of rfl) rfl)) ?_
  all_goals first | refine awpOps_cons (g_off rfl rfl rfl rfl rfl) ?_ | refine awpOps_cons (g_on rfl rfl rfl (op_mv rfl (Conv.of rfl) rfl)) ?_
  all_goals first | refine awpOps_cons (g_off rfl rfl rfl rfl rfl) ?_ | refine awpOps_cons (g_on rfl rfl rfl (op_call fb46 (.cons rfl (Conv.of rfl) (.cons rfl (Conv.of rfl) (.nil _))) (sure_ct _ _) (argOk rfl rfl (argOk rfl rfl argOk0)) rfl rfl)) ?_
  all_goals refine awpOps_cons (op_pick rfl rfl rfl rfl) ?_
  all_goals refine awpOps_cons (op_as rfl (Conv.of rfl) rfl) ?_
  all_goals refine awpOps_nil ?_
  all_goals refine awp_ret ?_
  all_goals refine finP (.v rfl (Conv.of rfl)) rfl ?_
  all_goals simp_all [FV.av]
theorem treeLong_ct (l : List Vote) (ho : votesOk l = true) (hl : l.length ≤ 1000) : CtP Try.prog 22 [.v l] (.v ((tipOf l).length : Int)) := by
  have hg := gdOf ho hl
  refine Ct.intro Try.func22 rfl rfl ?_
  all_goals refine awp_seq (awp_region (id := 0) ?_)
  all_goals refine awpOps_cons (op_as rfl (Conv.of rfl) rfl) ?_
  all_goals refine awpOps_nil ?_
  all_goals refine awp_seq (awp_seq (awp_region (id := 1) ?_))
  all_goals refine awpOps_cons (op_mv rfl (Conv.of rfl) rfl) ?_
  all_goals refine awpOps_cons (op_call fb44 (.cons rfl (Conv.of rfl) (.nil _)) (votesOk_ct _) (argOk rfl rfl argOk0) rfl rfl) ?_
  all_goals refine awpOps_cons (op_not rfl rfl) ?_
  all_goals refine awpOps_nil ?_
  refine awp_cond rfl (fun h => absurd (not_t h) (by rw [ho]; decide)) (fun h => ?_)
  refine awp_skip ?_
  all_goals refine awp_seq (awp_region (id := 3) ?_)
  all_goals refine awpOps_cons (op_mv rfl (Conv.of rfl) rfl) ?_
  all_goals refine awpOps_cons (op_call fb47 (.cons rfl (Conv.of rfl) (.nil _)) (tip_ct _ hg.l hg.v) (argOk rfl rfl argOk0) rfl rfl) ?_
  all_goals refine awpOps_cons (op_len sl33 rfl rfl) ?_
  all_goals refine awpOps_cons (op_as rfl (Conv.of rfl) rfl) ?_
  all_goals refine awpOps_nil ?_
  refine awp_ret ?_
  repeat first | refine rt_seq ?_ | refine rt_block ?_
  exact finP (.v rfl (Conv.of rfl)) rfl rfl
theorem treeAll_ct (l : List Vote) (ho : votesOk l = true) (hl : l.length ≤ 1000) : CtP Try.prog 23 [.v l] (.v (CList.mk ((allOf l).map CList.mk))) := by
  have hg := gdOf ho hl
  refine Ct.intro Try.func23 rfl rfl ?_
  all_goals refine awp_seq (awp_region (id := 0) ?_)
  all_goals refine awpOps_cons (op_as rfl (Conv.of rfl) rfl) ?_
  all_goals refine awpOps_nil ?_
  all_goals refine awp_seq (awp_seq (awp_region (id := 1) ?_))
  all_goals refine awpOps_cons (op_mv rfl (Conv.of rfl) rfl) ?_
  all_goals refine awpOps_cons (op_call fb44 (.cons rfl (Conv.of rfl) (.nil _)) (votesOk_ct _) (argOk rfl rfl argOk0) rfl rfl) ?_
  all_goals refine awpOps_cons (op_not rfl rfl) ?_
  all_goals refine awpOps_nil ?_
  refine awp_cond rfl (fun h => absurd (not_t h) (by rw [ho]; decide)) (fun h => ?_)
  refine awp_skip ?_
  all_goals refine awp_seq (awp_region (id := 3) ?_)
  all_goals refine awpOps_cons (op_mv rfl (Conv.of rfl) rfl) ?_
  all_goals refine awpOps_cons (op_call fb48 (.cons rfl (Conv.of rfl) (.nil _)) (all_ct _ hg.l hg.v) (argOk rfl rfl argOk0) rfl rfl) ?_
  all_goals refine awpOps_cons (op_as rfl (Conv.of rfl) rfl) ?_
  all_goals refine awpOps_nil ?_
  refine awp_ret ?_
  repeat first | refine rt_seq ?_ | refine rt_block ?_
  exact finP (.v rfl (Conv.of rfl)) rfl rfl
theorem treeFinal_ct (l : List Vote) (ho : votesOk l = true) (hl : l.length ≤ 1000) : CtP Try.prog 27 [.v l] (.v (CList.mk (finalOf l))) := by
  have hg := gdOf ho hl
  refine Ct.intro Try.func27 rfl rfl ?_
  all_goals refine awp_seq (awp_region (id := 0) ?_)
  all_goals refine awpOps_cons (op_as rfl (Conv.of rfl) rfl) ?_
  all_goals refine awpOps_nil ?_
  all_goals refine awp_seq (awp_seq (awp_region (id := 1) ?_))
  all_goals refine awpOps_cons (op_mv rfl (Conv.of rfl) rfl) ?_
  all_goals refine awpOps_cons (op_call fb44 (.cons rfl (Conv.of rfl) (.nil _)) (votesOk_ct _) (argOk rfl rfl argOk0) rfl rfl) ?_
  all_goals refine awpOps_cons (op_not rfl rfl) ?_
  all_goals refine awpOps_nil ?_
  refine awp_cond rfl (fun h => absurd (not_t h) (by rw [ho]; decide)) (fun h => ?_)
  refine awp_skip ?_
  all_goals refine awp_seq (awp_region (id := 3) ?_)
  all_goals refine awpOps_cons (op_mv rfl (Conv.of rfl) rfl) ?_
  all_goals refine awpOps_cons (op_call fb55 (.cons rfl (Conv.of rfl) (.nil _)) (vfinal_ct _ hg.l hg.v hg.e) (argOk rfl rfl argOk0) rfl rfl) ?_
  all_goals refine awpOps_cons (op_as rfl (Conv.of rfl) rfl) ?_
  all_goals refine awpOps_nil ?_
  refine awp_ret ?_
  repeat first | refine rt_seq ?_ | refine rt_block ?_
  exact finP (.v rfl (Conv.of rfl)) rfl rfl
theorem votesFor_ct (l : List Vote) (c : List Itm) (ho : votesOk l = true) : CtP Try.prog 25 [.v l, .v c] (.v (CList.mk (voters l c))) := by
  refine Ct.intro Try.func25 rfl rfl ?_
  all_goals refine awp_seq (awp_region (id := 0) ?_)
  all_goals refine awpOps_cons (op_as rfl (Conv.of rfl) rfl) ?_
  all_goals refine awpOps_nil ?_
  all_goals refine awp_seq (awp_seq (awp_region (id := 1) ?_))
  all_goals refine awpOps_cons (op_mv rfl (Conv.of rfl) rfl) ?_
  all_goals refine awpOps_cons (op_call fb44 (.cons rfl (Conv.of rfl) (.nil _)) (votesOk_ct _) (argOk rfl rfl argOk0) rfl rfl) ?_
  all_goals refine awpOps_cons (op_not rfl rfl) ?_
  all_goals refine awpOps_nil ?_
  refine awp_cond rfl (fun h => absurd (not_t h) (by rw [ho]; decide)) (fun h => ?_)
  refine awp_skip ?_
  all_goals refine awp_seq (awp_region (id := 3) ?_)
  all_goals refine awpOps_cons (op_mv rfl (Conv.of rfl) rfl) ?_
  all_goals refine awpOps_cons (op_mv rfl (Conv.of rfl) rfl) ?_
  all_goals refine awpOps_cons (op_call fb54 (.cons rfl (Conv.of rfl) (.cons rfl (Conv.of rfl) (.nil _))) (voters_ct _ _) (argOk rfl rfl (argOk rfl rfl argOk0)) rfl rfl) ?_
  all_goals refine awpOps_cons (op_as rfl (Conv.of rfl) rfl) ?_
  all_goals refine awpOps_nil ?_
  refine awp_ret ?_
  repeat first | refine rt_seq ?_ | refine rt_block ?_
  exact finP (.v rfl (Conv.of rfl)) rfl rfl
theorem begins_ct (a b : List Itm) : CtP Try.prog 57 [.v a, .v b] (.v (inS a b)) := by
  refine Ct.intro Try.func57 rfl rfl ?_
  all_goals refine awp_seq (awp_region (id := 0) ?_)
  all_goals refine awpOps_cons (op_as rfl (Conv.of rfl) rfl) ?_
  all_goals refine awpOps_nil ?_
  all_goals refine awp_seq (awp_region (id := 1) ?_)
  all_goals refine awpOps_cons (op_mv rfl (Conv.of rfl) rfl) ?_
  all_goals refine awpOps_cons (op_len sl33 rfl rfl) ?_
  all_goals refine awpOps_cons (op_mv rfl (Conv.of rfl) rfl) ?_
  all_goals refine awpOps_cons (op_len sl33 rfl rfl) ?_
  all_goals refine awpOps_cons (op_leq rfl rfl rfl) ?_
  all_goals refine awpOps_cons (op_mv rfl (Conv.of rfl) rfl) ?_
  all_goals refine g_split (t := 10) rfl (fun h => ?_) (fun h => ?_)
  all_goals first | refine awpOps_cons (g_off rfl rfl rfl rfl rfl) ?_ | refine awpOps_cons (g_on rfl rfl rfl (op_mv rfl (Conv.of rfl) rfl)) ?_
  all_goals first | refine awpOps_cons (g_off rfl rfl rfl rfl rfl) ?_ | refine awpOps_cons (g_on rfl rfl rfl (op_mv rfl (Conv.of rfl) rfl)) ?_
  all_goals first | refine awpOps_cons (g_off rfl rfl rfl rfl rfl) ?_ | refine awpOps_cons (g_on rfl rfl rfl (op_mv rfl (Conv.of rfl) rfl)) ?_
  all_goals first | refine awpOps_cons (g_off rfl rfl rfl rfl rfl) ?_ | refine awpOps_cons (g_on rfl rfl rfl (op_len sl33 rfl rfl)) ?_
  all_goals first | refine awpOps_cons (g_off rfl rfl rfl rfl rfl) ?_ | refine awpOps_cons (g_on rfl rfl rfl (op_slh sl33 rfl rfl rfl ⟨by omega, by (have := of_decide_eq_true h; simp_all)⟩)) ?_
  all_goals first | refine awpOps_cons (g_off rfl rfl rfl rfl rfl) ?_ | refine awpOps_cons (g_on rfl rfl rfl (op_call fb79 (.cons rfl (Conv.of rfl) (.cons rfl (Conv.of rfl) (.nil _))) (equal_ct _ _) (argOk rfl rfl (argOk rfl rfl argOk0)) rfl rfl)) ?_
  all_goals refine awpOps_cons (op_pick rfl rfl rfl rfl) ?_
  all_goals refine awpOps_cons (op_as rfl (Conv.of rfl) rfl) ?_
  all_goals refine awpOps_nil ?_
  all_goals refine awp_ret ?_
  all_goals refine finP (.v rfl (Conv.of rfl)) rfl ?_
  all_goals (show AV.v _ = AV.v _; congr 1; unfold inS; simp_all; try (intro hh; omega))
theorem chainIn_ct (a b : List Itm) : CtP Try.prog 29 [.v a, .v b] (.v (chIn a b)) := by
  refine Ct.intro Try.func29 rfl rfl ?_
  all_goals refine awp_seq (awp_region (id := 0) ?_)
  all_goals refine awpOps_cons (op_as rfl (Conv.of rfl) rfl) ?_
  all_goals refine awpOps_nil ?_
  all_goals refine awp_seq (awp_region (id := 1) ?_)
  all_goals refine awpOps_cons (op_mv rfl (Conv.of rfl) rfl) ?_
  all_goals refine awpOps_cons (op_call fb45 (.cons rfl (Conv.of rfl) (.nil _)) (chainOk_ct _) (argOk rfl rfl argOk0) rfl rfl) ?_
  all_goals refine awpOps_cons (op_mv rfl (Conv.of rfl) rfl) ?_
  all_goals refine g_split (t := 7) rfl (fun h => ?_) (fun h => ?_)
  all_goals first | refine awpOps_cons (g_off rfl rfl rfl rfl rfl) ?_ | refine awpOps_cons (g_on rfl rfl rfl (op_mv rfl (Conv.of rfl) rfl)) ?_
  all_goals first | refine awpOps_cons (g_off rfl rfl rfl rfl rfl) ?_ | refine awpOps_cons (g_on rfl rfl rfl (op_call fb45 (.cons rfl (Conv.of rfl) (.nil _)) (chainOk_ct _) (argOk rfl rfl argOk0) rfl rfl)) ?_
  all_goals refine awpOps_cons (op_pick rfl rfl rfl rfl) ?_
  all_goals refine awpOps_cons (op_mv rfl (Conv.of rfl) rfl) ?_
  all_goals first | refine g_lit (t := 11) (b := false) rfl ?_ | refine g_split (t := 11) rfl (fun h => ?_) (fun h => ?_)
  all_goals first | refine awpOps_cons (g_off rfl rfl rfl rfl rfl) ?_ | refine awpOps_cons (g_on rfl rfl rfl (op_mv rfl (Conv.of rfl) rfl)) ?_
  all_goals first | refine awpOps_cons (g_off rfl rfl rfl rfl rfl) ?_ | refine awpOps_cons (g_on rfl rfl rfl (op_mv rfl (Conv.of rfl) rfl)) ?_
  all_goals first | refine awpOps_cons (g_off rfl rfl rfl rfl rfl) ?_ | refine awpOps_cons (g_on rfl rfl rfl (op_call fb57 (.cons rfl (Conv.of rfl) (.cons rfl (Conv.of rfl) (.nil _))) (begins_ct _ _) (argOk rfl rfl (argOk rfl rfl argOk0)) rfl rfl)) ?_
  all_goals refine awpOps_cons (op_pick rfl rfl rfl rfl) ?_
  all_goals refine awpOps_cons (op_as rfl (Conv.of rfl) rfl) ?_
  all_goals refine awpOps_nil ?_
  all_goals refine awp_ret ?_
  all_goals refine finP (.v rfl (Conv.of rfl)) rfl ?_
  all_goals (show AV.v _ = AV.v _; congr 1; unfold chIn; simp_all)
theorem lwFits_ct (a b : List Itm) : CtP Try.prog 30 [.v a, .v b] (.v (fitsB a b)) := by
  refine Ct.intro Try.func30 rfl rfl ?_
  all_goals refine awp_seq (awp_region (id := 0) ?_)
  all_goals refine awpOps_cons (op_as rfl (Conv.of rfl) rfl) ?_
  all_goals refine awpOps_nil ?_
  all_goals refine awp_seq (awp_region (id := 1) ?_)
  all_goals refine awpOps_cons (op_mv rfl (Conv.of rfl) rfl) ?_
  all_goals refine awpOps_cons (op_mv rfl (Conv.of rfl) rfl) ?_
  all_goals refine awpOps_cons (op_call fb29 (.cons rfl (Conv.of rfl) (.cons rfl (Conv.of rfl) (.nil _))) (chainIn_ct _ _) (argOk rfl rfl (argOk rfl rfl argOk0)) rfl rfl) ?_
  all_goals refine awpOps_cons (op_mv rfl (Conv.of rfl) rfl) ?_
  all_goals refine g_split (t := 8) rfl (fun h => ?_) (fun h => ?_)
  all_goals first | refine awpOps_cons (g_off rfl rfl rfl rfl rfl) ?_ | refine awpOps_cons (g_on rfl rfl rfl (op_mv rfl (Conv.of rfl) rfl)) ?_
  all_goals first | refine awpOps_cons (g_off rfl rfl rfl rfl rfl) ?_ | refine awpOps_cons (g_on rfl rfl rfl (op_mv rfl (Conv.of rfl) rfl)) ?_
  all_goals first | refine awpOps_cons (g_off rfl rfl rfl rfl rfl) ?_ | refine awpOps_cons (g_on rfl rfl rfl (op_call fb29 (.cons rfl (Conv.of rfl) (.cons rfl (Conv.of rfl) (.nil _))) (chainIn_ct _ _) (argOk rfl rfl (argOk rfl rfl argOk0)) rfl rfl)) ?_
  all_goals refine awpOps_cons (op_pick rfl rfl rfl rfl) ?_
  all_goals refine awpOps_cons (op_as rfl (Conv.of rfl) rfl) ?_
  all_goals refine awpOps_nil ?_
  all_goals refine awp_ret ?_
  all_goals refine finP (.v rfl (Conv.of rfl)) rfl ?_
  all_goals (show AV.v _ = AV.v _; congr 1; unfold fitsB; simp_all)
set_option maxHeartbeats 1000000 in
theorem lwAgreed_ct (w : Wrld) (hI : Inv w) : CtP Try.prog 31 [.v w] (.v true) := by
  have h4 := hI.ok.four
  refine Ct.intro Try.func31 rfl rfl ?_
  all_goals refine awp_seq (awp_region (id := 0) ?_)
  all_goals refine awpOps_cons (op_box (o := 0) ty29 rfl (Conv.of rfl) rfl rfl) ?_
  all_goals refine awpOps_cons (op_as rfl (Conv.of rfl) rfl) ?_
  all_goals refine awpOps_nil ?_
  all_goals refine awp_seq (awp_seq (awp_region (id := 1) ?_))
  all_goals refine awpOps_cons (op_as rfl (Conv.of rfl) rfl) ?_
  all_goals refine awpOps_nil ?_
  refine awp_block ?_
  refine awp_loop' (fun n_ s => ∃ (i : Nat), ∃ (hn : n_ + i = 4), s = mkSt 47 [(1, .box 0 (IsLens.whole Wrld)), (3, .v (i : Int))] [(0, .cell w)]) (4) ⟨0, by omega, rfl⟩ (Le.mk rfl (tlb rfl rfl rfl (tle rfl (rfl) rfl tln)) (olk rfl (by exact obOk_cell) oln) noS) ?_
  rintro n_ s ⟨i, hn, rfl⟩
  all_goals refine awp_seq (awp_seq (awp_region (id := 2) ?_))
  all_goals refine awpOps_cons (op_mv rfl (Conv.of rfl) rfl) ?_
  all_goals refine awpOps_cons (op_fab f29_1 rfl rfl) ?_
  all_goals refine awpOps_cons (op_ld ty26 rfl rfl rfl) ?_
  all_goals refine awpOps_cons (op_len sl26 rfl rfl) ?_
  all_goals refine awpOps_cons (op_lss rfl rfl rfl) ?_
  all_goals refine awpOps_nil ?_
  refine awp_cond rfl (fun h => ?_) (fun h => ?_)
  · have hi : i < w.nodes.length := by simpa using h
    have hx : w.nodes[i]? = some w.nodes[i] := List.getElem?_eq_getElem hi
    generalize w.nodes[i] = a at hx
    have ha := nodeOk_seen (hI.ok.nodes a (List.mem_of_getElem? hx))
    refine awp_skip ?_
    refine awp_seq (awp_block ?_)
    all_goals refine awp_seq (awp_region (id := 4) ?_)
    all_goals refine awpOps_cons (op_as rfl (Conv.of rfl) rfl) ?_
    all_goals refine awpOps_nil ?_
    refine awp_toB (s' := mkSt 47 [(1, .box 0 (IsLens.whole Wrld)), (3, .v (i : Int))] [(0, .cell w)]) ?_ ?_
    · refine awp_block ?_
      refine awp_loop' (fun n_ s => ∃ (k : Nat), ∃ (hk : n_ + k = i), s = mkSt 47 [(1, .box 0 (IsLens.whole Wrld)), (3, .v (i : Int)), (4, .v (k : Int))] [(0, .cell w)]) (i) ⟨0, by omega, rfl⟩ (Le.mk rfl (tlb rfl rfl rfl (tle rfl (rfl) rfl (tle rfl (rfl) rfl tln))) (olk rfl (by exact obOk_cell) oln) noS) ?_
      rintro n_ s ⟨k, hk, rfl⟩
      all_goals refine awp_seq (awp_seq (awp_region (id := 5) ?_))
      all_goals refine awpOps_cons (op_mv rfl (Conv.of rfl) rfl) ?_
      all_goals refine awpOps_cons (op_mv rfl (Conv.of rfl) rfl) ?_
      all_goals refine awpOps_cons (op_lss rfl rfl rfl) ?_
      all_goals refine awpOps_nil ?_
      refine awp_cond rfl (fun h2 => ?_) (fun h2 => ?_)
      · have hk2 : k < i := by simpa using h2
        have hy : w.nodes[k]? = some (w.nodes[k]'(by omega)) := List.getElem?_eq_getElem (by omega)
        generalize w.nodes[k]'(by omega) = b at hy
        have hb := nodeOk_seen (hI.ok.nodes b (List.mem_of_getElem? hy))
        have hfit := fun e1 e2 => hI.agree hx hy e1 e2
        refine awp_skip ?_
        refine awp_seq (awp_block ?_)
        refine awp_seq_to (s' := mkSt 47 [(1, .box 0 (IsLens.whole Wrld)), (3, .v (i : Int)), (4, .v (k : Int)), (46, .v false)] [(0, .cell w)]) ?_ ?_
        · all_goals refine dr_start (id := 7) ?_
          all_goals refine dr_cons (op_mv rfl (Conv.of rfl) rfl) ?_
          all_goals refine dr_cons (op_add rfl rfl rfl (by omega)) ?_
          all_goals refine dr_cons (op_fab f29_3 rfl rfl) ?_
          all_goals refine dr_cons (op_ld ty3 rfl rfl rfl) ?_
          all_goals refine dr_cons (op_neq rfl rfl rfl) ?_
          all_goals refine dr_cons (op_mv rfl (Conv.of rfl) rfl) ?_
          all_goals refine dr_split (t := 22) rfl (fun h => ?_) (fun h => ?_)
          all_goals first | refine dr_cons (g_off rfl rfl rfl rfl rfl) ?_ | refine dr_cons (g_on rfl rfl rfl (op_mv rfl (Conv.of rfl) rfl)) ?_
          all_goals first | refine dr_cons (g_off rfl rfl rfl rfl rfl) ?_ | refine dr_cons (g_on rfl rfl rfl (op_add rfl rfl rfl (by omega))) ?_
          all_goals first | refine dr_cons (g_off rfl rfl rfl rfl rfl) ?_ | refine dr_cons (g_on rfl rfl rfl (op_fab f29_3 rfl rfl)) ?_
          all_goals first | refine dr_cons (g_off rfl rfl rfl rfl rfl) ?_ | refine dr_cons (g_on rfl rfl rfl (op_ld ty3 rfl rfl rfl)) ?_
          all_goals first | refine dr_cons (g_off rfl rfl rfl rfl rfl) ?_ | refine dr_cons (g_on rfl rfl rfl (op_neq rfl rfl rfl)) ?_
          all_goals refine dr_cons (op_pick rfl rfl rfl rfl) ?_
          all_goals refine dr_cons (op_mv rfl (Conv.of rfl) rfl) ?_
          all_goals first | refine dr_lit (t := 29) (b := false) rfl ?_ | refine dr_split (t := 29) rfl (fun h => ?_) (fun h => ?_)
          all_goals first | refine dr_cons (g_off rfl rfl rfl rfl rfl) ?_ | refine dr_cons (g_on rfl rfl rfl (op_fab f29_1 rfl rfl)) ?_
          all_goals first | refine dr_cons (g_off rfl rfl rfl rfl rfl) ?_ | refine dr_cons (g_on rfl rfl rfl (op_ld ty26 rfl rfl rfl)) ?_
          all_goals first | refine dr_cons (g_off rfl rfl rfl rfl rfl) ?_ | refine dr_cons (g_on rfl rfl rfl (op_mv rfl (Conv.of rfl) rfl)) ?_
          all_goals first | refine dr_cons (g_off rfl rfl rfl rfl rfl) ?_ | refine dr_cons (g_on rfl rfl rfl (op_ix sl26 rfl rfl rfl (by omega) hx)) ?_
          all_goals first | refine dr_cons (g_off rfl rfl rfl rfl rfl) ?_ | refine dr_cons (g_on rfl rfl rfl (op_far f44_3 rfl rfl)) ?_
          all_goals first | refine dr_cons (g_off rfl rfl rfl rfl rfl) ?_ | refine dr_cons (g_on rfl rfl rfl (op_ldr ty27 rfl rfl)) ?_
          all_goals first | refine dr_cons (g_off rfl rfl rfl rfl rfl) ?_ | refine dr_cons (g_on rfl rfl rfl (op_call fb27 (.cons rfl (Conv.of rfl) (.nil _)) (treeFinal_ct _ ha.1 (by omega)) (argOk rfl rfl argOk0) rfl rfl)) ?_
          all_goals first | refine dr_cons (g_off rfl rfl rfl rfl rfl) ?_ | refine dr_cons (g_on rfl rfl rfl (op_fab f29_1 rfl rfl)) ?_
          all_goals first | refine dr_cons (g_off rfl rfl rfl rfl rfl) ?_ | refine dr_cons (g_on rfl rfl rfl (op_ld ty26 rfl rfl rfl)) ?_
          all_goals first | refine dr_cons (g_off rfl rfl rfl rfl rfl) ?_ | refine dr_cons (g_on rfl rfl rfl (op_mv rfl (Conv.of rfl) rfl)) ?_
          all_goals first | refine dr_cons (g_off rfl rfl rfl rfl rfl) ?_ | refine dr_cons (g_on rfl rfl rfl (op_ix sl26 rfl rfl rfl (by omega) hy)) ?_
          all_goals first | refine dr_cons (g_off rfl rfl rfl rfl rfl) ?_ | refine dr_cons (g_on rfl rfl rfl (op_far f44_3 rfl rfl)) ?_
          all_goals first | refine dr_cons (g_off rfl rfl rfl rfl rfl) ?_ | refine dr_cons (g_on rfl rfl rfl (op_ldr ty27 rfl rfl)) ?_
          all_goals first | refine dr_cons (g_off rfl rfl rfl rfl rfl) ?_ | refine dr_cons (g_on rfl rfl rfl (op_call fb27 (.cons rfl (Conv.of rfl) (.nil _)) (treeFinal_ct _ hb.1 (by omega)) (argOk rfl rfl argOk0) rfl rfl)) ?_
          all_goals first | refine dr_cons (g_off rfl rfl rfl rfl rfl) ?_ | refine dr_cons (g_on rfl rfl rfl (op_call fb30 (.cons rfl (Conv.cl) (.cons rfl (Conv.cl) (.nil _))) (lwFits_ct _ _) (argOk rfl rfl (argOk rfl rfl argOk0)) rfl rfl)) ?_
          all_goals first | refine dr_cons (g_off rfl rfl rfl rfl rfl) ?_ | refine dr_cons (g_on rfl rfl rfl (op_not rfl rfl)) ?_
          all_goals refine dr_cons (op_pick rfl rfl rfl rfl) ?_
          all_goals refine dr_nil mixed rfl ?_
          all_goals exact Le.mk rfl (tlb rfl rfl rfl (tle rfl (rfl) rfl (tle rfl (rfl) rfl (tle rfl (by first | rfl | (show AV.v _ = AV.v _; simp_all)) rfl tln)))) (olk rfl (by exact obOk_cell) oln) noS
        refine awp_cond rfl (fun h3 => absurd h3 (by decide)) (fun h3 => ?_)
        refine awp_skip ?_
        all_goals refine awp_region (id := 6) ?_
        all_goals refine awpOps_cons (op_mv rfl (Conv.of rfl) rfl) ?_
        all_goals refine awpOps_cons (op_add rfl rfl rfl (by omega)) ?_
        all_goals refine awpOps_cons (op_as rfl (Conv.of rfl) rfl) ?_
        all_goals refine awpOps_nil ?_
        repeat first | refine nx_seq ?_ | refine nx_block ?_
        exact ⟨n_ - 1, _, by omega, ⟨k + 1, by omega, rfl⟩, Le.mk rfl (tlb rfl rfl rfl (tle rfl (rfl) rfl (tle rfl (rfl) rfl tln))) (olk rfl (by exact obOk_cell) oln) noS⟩
      · refine awp_exit ?_
        repeat refine ex_seq ?_
        refine ex_block ?_
        all_goals exact Le.mk rfl (tlb rfl rfl rfl (tle rfl (rfl) rfl tln)) (olk rfl (by exact obOk_cell) oln) noS
    · all_goals refine awp_region (id := 3) ?_
      all_goals refine awpOps_cons (op_mv rfl (Conv.of rfl) rfl) ?_
      all_goals refine awpOps_cons (op_add rfl rfl rfl (by omega)) ?_
      all_goals refine awpOps_cons (op_as rfl (Conv.of rfl) rfl) ?_
      all_goals refine awpOps_nil ?_
      repeat first | refine nx_seq ?_ | refine nx_block ?_
      exact ⟨n_ - 1, _, by omega, ⟨i + 1, by omega, rfl⟩, Le.mk rfl (tlb rfl rfl rfl (tle rfl (rfl) rfl tln)) (olk rfl (by exact obOk_cell) oln) noS⟩
  · refine awp_exit ?_
    repeat refine ex_seq ?_
    refine ex_block ?_
    all_goals refine awp_seq (awp_region (id := 9) ?_)
    all_goals refine awpOps_cons (op_as rfl (Conv.of rfl) rfl) ?_
    all_goals refine awpOps_nil ?_
    refine awp_ret ?_
    repeat first | refine rt_seq ?_ | refine rt_block ?_
    exact finP (.v rfl (Conv.of rfl)) rfl rfl
end Go.Proofs.Ytlepfdmolankeaa

/- Plays with fewer events; what grows. -/
set_option linter.unusedVariables false
set_option linter.unusedSimpArgs false
namespace Go.Wt
theorem tip_nil {l : List Vote} {id : Int} (h : ∀ v ∈ l, v.by_ = id) : tipOf l = [] := by
  by_cases h0 : 0 < (tipOf l).length
  · obtain ⟨n, hn, hm⟩ := quorum1 id (sure_self (tip_sure l) h0)
    exact absurd (h _ hm) hn
  · exact List.eq_nil_of_length_eq_zero (by omega)
theorem final_nil {l : List Vote} {id : Int} (h : ∀ v ∈ l, v.by_ = id) : finalOf l = [] := by
  have : shownOf l = [] := by
    by_cases h0 : 0 < (shownOf l).length
    · obtain ⟨n, hn, hm⟩ := quorum1 id (sure_self (shown_sure l) h0)
      exact absurd (h _ hm) hn
    · exact List.eq_nil_of_length_eq_zero (by omega)
  unfold finalOf; rw [this]; rfl
/-! Forged votes and ticks alone -/
structure Al (w : Wrld) : Prop where
  seen : ∀ n ∈ w.nodes, n.seen = []
  log : ∀ v ∈ w.log, v.by_ = w.bad
theorem Al.do {w : Wrld} {e : Evt} (h : Al w) (he : e.kind = 4 ∨ e.kind = 1) : Al (doF w e) := by
  unfold doF
  rcases he with he | he
  · rw [if_neg (by omega), if_neg (by omega), if_neg (by omega), if_pos he]
    split
    · rename_i hh
      simp only [Bool.and_eq_true, decide_eq_true_eq] at hh
      unfold sendF
      split
      · refine ⟨h.seen, fun v hv => ?_⟩
        rcases List.mem_append.1 hv with hv | hv
        · exact h.log v hv
        · simp at hv; subst hv; exact hh.2
      · exact h
    · exact h
  · rw [if_pos he]
    refine ⟨fun n hn => ?_, h.log⟩
    obtain ⟨m, hm, rfl⟩ := List.mem_map.1 hn
    have := h.seen m hm
    unfold enterF; split <;> exact this
theorem Al.fold : ∀ (l : List Evt) {w : Wrld}, Al w → (∀ e ∈ l, e.kind = 4 ∨ e.kind = 1) → Al (l.foldl doF w)
  | [], _, h, _ => h
  | e :: r, _, h, hl => Al.fold r (h.do (hl e (by simp))) fun e' he => hl e' (by simp [he])
theorem Al.play {bad : Int} {evs : List Evt} (h : ∀ e ∈ evs, e.kind = 4 ∨ e.kind = 1) : Al (playF bad evs) :=
  Al.fold evs ⟨fun n hn => by simp [newW, newN] at hn; rcases hn with rfl | rfl | rfl | rfl <;> rfl, fun v hv => by simp [newW] at hv⟩ h
/-! Nothing is brought -/
def Uh (w : Wrld) : Prop := ∀ n ∈ w.nodes, ∀ v ∈ n.seen, v.by_ = n.id ∧ v.chain.length = 1
theorem send_nodes' (w : Wrld) (v : Vote) : (sendF w v).nodes = w.nodes := by unfold sendF; split <;> rfl
theorem put_nodes' (w : Wrld) (k : Nat) (x : Nod × Vote × Bool) : (putF w k x).nodes = w.nodes.set k x.1 := by
  unfold putF
  split
  · rw [send_nodes']
  · rfl
theorem Uh.do {w : Wrld} {e : Evt} (h : Uh w) (he : e.kind ≠ 3) : Uh (doF w e) := by
  unfold doF
  split
  · intro n hn
    obtain ⟨m, hm, rfl⟩ := List.mem_map.1 hn
    have := h m hm
    unfold enterF; split <;> exact this
  · split
    · unfold wproposeF
      split
      · split
        · rename_i n hn
          intro m hm
          rw [put_nodes'] at hm
          rcases List.mem_or_eq_of_mem_set hm with hm | hm
          · exact h m hm
          · subst hm
            have hN := h n (List.mem_of_getElem? hn)
            rcases propose_cases n e.pay with e1 | ⟨c, hc, e1⟩
            · rw [e1]; exact hN
            · rw [e1]
              have hl := hc.len
              rw [tip_nil fun v hv => (hN v hv).1] at hl
              unfold voteF
              split
              · exact hN
              · intro v hv
                rcases List.mem_append.1 hv with hv | hv
                · exact hN v hv
                · simp at hv; subst hv; exact ⟨rfl, by simpa using hl⟩
        · exact h
      · exact h
    · split
      · split
        · intro n hn; rw [send_nodes'] at hn; exact h n hn
        · exact h
      · exact h
theorem Uh.fold : ∀ (l : List Evt) {w : Wrld}, Uh w → (∀ e ∈ l, e.kind ≠ 3) → Uh (l.foldl doF w)
  | [], _, h, _ => h
  | e :: r, _, h, hl => Uh.fold r (h.do (hl e (by simp))) fun e' he => hl e' (by simp [he])
theorem Uh.play {bad : Int} {evs : List Evt} (h : ∀ e ∈ evs, e.kind ≠ 3) : Uh (playF bad evs) :=
  Uh.fold evs (fun n hn v hv => by simp [newW, newN] at hn; rcases hn with rfl | rfl | rfl | rfl <;> simp at hv) h
/-! Nothing is forged -/
theorem log_put {w : Wrld} {k : Nat} {x : Nod × Vote × Bool} {v : Vote} (h : v ∈ (putF w k x).log) : v ∈ w.log ∨ (x.2.2 = true ∧ v = x.2.1) := by
  unfold putF at h
  split at h
  · rename_i hx
    unfold sendF at h
    split at h
    · rcases List.mem_append.1 h with h | h
      · exact .inl h
      · simp at h; exact .inr ⟨hx, h⟩
    · exact .inl h
  · exact .inl h
theorem voteF_by {n : Nod} {c : List Itm} (h : (voteF n c).2.2 = true) : (voteF n c).2.1.by_ = n.id := by
  unfold voteF at h ⊢
  split at h
  · cases h
  · rename_i hh; rw [if_neg hh]
theorem propose_by {n : Nod} {p : Pay} (h : (proposeF n p).2.2 = true) : (proposeF n p).2.1.by_ = n.id := by
  rcases propose_cases n p with e | ⟨c, _, e⟩
  · rw [e] at h; cases h
  · rw [e] at h ⊢; exact voteF_by h
theorem tryF_by {n : Nod} : ∀ {l : List Vote}, (tryF n l).2.2 = true → (tryF n l).2.1.by_ = n.id
  | [], h => by cases h
  | u :: r, h => by
    simp only [tryF] at h ⊢
    split at h
    · rename_i hf; rw [if_pos hf]; exact voteF_by h
    · rename_i hf; rw [if_neg hf]; exact tryF_by h
theorem hear_by {n : Nod} {v : Vote} (h : (hearF n v).2.2 = true) : (hearF n v).2.1.by_ = n.id := by
  unfold hearF at h ⊢
  split at h
  · rename_i hh
    rw [if_pos hh]
    split at h
    · rename_i hm
      rw [if_pos hm, ← (seeF_epoch n v).2.1]
      exact tryF_by h
    · cases h
  · cases h
def Si (w : Wrld) : Prop := ∀ v ∈ w.log, v.by_ ≠ w.bad
theorem Si.do {w : Wrld} {e : Evt} (hI : Inv w) (h : Si w) (he : e.kind ≠ 4) : Si (doF w e) := by
  intro v hv
  rw [doF_bad]
  unfold doF at hv
  split at hv
  · exact h v hv
  · split at hv
    · unfold wproposeF at hv
      split at hv
      · rename_i hh
        simp only [honestB, Bool.and_eq_true, Bool.not_eq_true', decide_eq_false_iff_not, decide_eq_true_eq] at hh
        have hid : 1 ≤ e.a ∧ e.a ≤ 4 := by simpa [within] using hh.1.1.1
        split at hv
        · rename_i n hn
          rcases log_put hv with hv | ⟨h1, rfl⟩
          · exact h v hv
          · rw [propose_by h1, node_id hI hid hn]; exact hh.1.1.2
        · exact h v hv
      · exact h v hv
    · split at hv
      · unfold wbringF at hv
        split at hv
        · rename_i hh
          simp only [honestB, Bool.and_eq_true, Bool.not_eq_true', decide_eq_false_iff_not, decide_eq_true_eq] at hh
          have hid : 1 ≤ e.b ∧ e.b ≤ 4 := by simpa [within] using hh.1.1.1
          split at hv
          · rename_i n u hn hu
            rcases log_put hv with hv | ⟨h1, rfl⟩
            · exact h v hv
            · rw [hear_by h1, node_id hI hid hn]; exact hh.1.1.2
          · exact h v hv
        · exact h v hv
      · exact h v hv
theorem Si.fold : ∀ (l : List Evt) {w : Wrld}, Inv w → Si w → (∀ e ∈ l, e.kind ≠ 4) → Si (l.foldl doF w)
  | [], _, _, h, _ => h
  | e :: r, _, hI, h, hl => Si.fold r (hI.do e) (h.do hI (hl e (by simp))) fun e' he => hl e' (by simp [he])
theorem Si.play {bad : Int} (hb : within bad 0 4 = true) {evs : List Evt} (h : ∀ e ∈ evs, e.kind ≠ 4) : Si (playF bad evs) :=
  Si.fold evs (Inv.new hb) (fun v hv => by simp [newW] at hv) h
theorem doF_epoch (w : Wrld) (e : Evt) : (doF w e).epoch = if e.kind = 1 then min (w.epoch + 1) 30 else w.epoch := by
  have hs : ∀ (w : Wrld) v, (sendF w v).epoch = w.epoch := fun w v => by unfold sendF; split <;> rfl
  have hp : ∀ (w : Wrld) k x, (putF w k x).epoch = w.epoch := fun w k x => by
    unfold putF
    split
    · rw [hs]
    · rfl
  unfold doF
  split
  · rfl
  · split
    · unfold wproposeF
      split
      · split
        · exact hp _ _ _
        · rfl
      · rfl
    · split
      · unfold wbringF
        split
        · split
          · exact hp _ _ _
          · rfl
        · rfl
      · split
        · split
          · exact hs _ _
          · rfl
        · rfl
theorem epoch_filter (p : Evt → Bool) (hp : ∀ e, e.kind = 1 → p e = true) : ∀ (l : List Evt) (w w' : Wrld), w.epoch = w'.epoch → ((l.filter p).foldl doF w).epoch = (l.foldl doF w').epoch
  | [], _, _, h => h
  | e :: r, w, w', h => by
    simp only [List.filter_cons, List.foldl_cons]
    by_cases hk : p e = true
    · rw [if_pos hk]
      exact epoch_filter p hp r _ _ (by rw [doF_epoch, doF_epoch, h])
    · rw [if_neg hk]
      refine epoch_filter p hp r _ _ ?_
      rw [doF_epoch, if_neg (fun h1 => hk (hp e h1))]; exact h
/-! What was seen stays seen -/
structure Grw (w w' : Wrld) : Prop where
  log : ∀ v ∈ w.log, v ∈ w'.log
  seen : ∀ (i : Nat) (n : Nod), w.nodes[i]? = some n → ∃ n', w'.nodes[i]? = some n' ∧ ∀ v ∈ n.seen, v ∈ n'.seen
theorem Grw.refl (w : Wrld) : Grw w w := ⟨fun _ h => h, fun i n h => ⟨n, h, fun _ h => h⟩⟩
theorem Grw.trans {a b c : Wrld} (h : Grw a b) (k : Grw b c) : Grw a c := ⟨fun v hv => k.log v (h.log v hv), fun i n hn => by
  obtain ⟨m, h1, h2⟩ := h.seen i n hn
  obtain ⟨o, h3, h4⟩ := k.seen i m h1
  exact ⟨o, h3, fun v hv => h4 v (h2 v hv)⟩⟩
theorem Grw.send (w : Wrld) (v : Vote) : Grw w (sendF w v) := ⟨fun u hu => by
  unfold sendF; split
  · exact List.mem_append_left _ hu
  · exact hu, fun i n hn => ⟨n, by rw [send_nodes']; exact hn, fun _ h => h⟩⟩
theorem Grw.set {w : Wrld} {k : Nat} {n m : Nod} (hn : w.nodes[k]? = some n) (hm : ∀ v ∈ n.seen, v ∈ m.seen) : Grw w { w with nodes := w.nodes.set k m } := ⟨fun _ h => h, fun i a ha => by
  by_cases e : i = k
  · subst e
    rw [hn] at ha
    injection ha with ha
    subst ha
    exact ⟨m, List.getElem?_set_self (List.getElem?_eq_some_iff.1 hn).1, hm⟩
  · exact ⟨a, by show (w.nodes.set k m)[i]? = _; rw [List.getElem?_set_ne (Ne.symm e)]; exact ha, fun _ h => h⟩⟩
theorem Grw.put {w : Wrld} {k : Nat} {n : Nod} {x : Nod × Vote × Bool} (hn : w.nodes[k]? = some n) (hm : ∀ v ∈ n.seen, v ∈ x.1.seen) : Grw w (putF w k x) := by
  unfold putF
  split
  · exact (Grw.set hn hm).trans (Grw.send _ _)
  · exact Grw.set hn hm
theorem voteF_seen (n : Nod) (c : List Itm) : ∀ v ∈ n.seen, v ∈ (voteF n c).1.seen := fun v hv => by
  unfold voteF; split
  · exact hv
  · exact List.mem_append_left _ hv
theorem proposeF_seen (n : Nod) (p : Pay) : ∀ v ∈ n.seen, v ∈ (proposeF n p).1.seen := by
  rcases propose_cases n p with e | ⟨c, _, e⟩
  · rw [e]; exact fun _ h => h
  · rw [e]; exact voteF_seen n c
theorem tryF_seen (n : Nod) : ∀ l : List Vote, ∀ v ∈ n.seen, v ∈ (tryF n l).1.seen
  | [] => fun _ h => h
  | u :: r => by
    simp only [tryF]
    split
    · exact voteF_seen n _
    · exact tryF_seen n r
theorem seeF_seen (n : Nod) (u : Vote) : ∀ v ∈ n.seen, v ∈ (seeF n u).seen := fun v hv => by
  unfold seeF; split
  · exact hv
  · exact List.mem_append_left _ hv
theorem hearF_seen (n : Nod) (u : Vote) : ∀ v ∈ n.seen, v ∈ (hearF n u).1.seen := fun v hv => by
  unfold hearF
  split
  · split
    · exact tryF_seen _ _ v (seeF_seen n u v hv)
    · exact seeF_seen n u v hv
  · exact hv
theorem Grw.do (w : Wrld) (e : Evt) : Grw w (doF w e) := by
  unfold doF
  split
  · refine ⟨fun _ h => h, fun i n hn => ⟨enterF n (min (w.epoch + 1) 30), ?_, ?_⟩⟩
    · show (w.nodes.map _)[i]? = _
      rw [List.getElem?_map, hn]; rfl
    · unfold enterF; split <;> exact fun _ h => h
  · split
    · unfold wproposeF
      split
      · split
        · rename_i n hn; exact Grw.put hn (proposeF_seen n _)
        · exact Grw.refl w
      · exact Grw.refl w
    · split
      · unfold wbringF
        split
        · split
          · rename_i n v hn hv; exact Grw.put hn (hearF_seen n v)
          · exact Grw.refl w
        · exact Grw.refl w
      · split
        · split
          · exact Grw.send _ _
          · exact Grw.refl w
        · exact Grw.refl w
theorem Grw.fold : ∀ (l : List Evt) (w : Wrld), Grw w (l.foldl doF w)
  | [], w => Grw.refl w
  | e :: r, w => (Grw.do w e).trans (Grw.fold r _)
theorem Grw.play (bad : Int) (evs : List Evt) (n : Nat) : Grw (playF bad (evs.take n)) (playF bad evs) := by
  have : playF bad evs = (evs.drop n).foldl doF (playF bad (evs.take n)) := by
    unfold playF; rw [← List.foldl_append, List.take_append_drop]
  rw [this]; exact Grw.fold _ _
theorem allStep_pos (l : List Vote) : ∀ (r : List Vote) (o : List (List Itm)) (x : List Itm), o[0]? = some x → (r.foldl (allStep l) o)[0]? = some x
  | [], _, _, h => h
  | v :: r, o, x, h => by
    refine allStep_pos l r _ x ?_
    unfold allStep
    split
    · have := (List.getElem?_eq_some_iff.1 h).1
      rw [List.getElem?_append_left this]; exact h
    · exact h
theorem allFold_nodup (l : List Vote) : ∀ (r : List Vote) (o : List (List Itm)), o.Nodup → (r.foldl (allStep l) o).Nodup
  | [], _, h => h
  | v :: r, o, h => by
    refine allFold_nodup l r _ ?_
    unfold allStep
    split
    · rename_i hh
      simp only [Bool.and_eq_true, Bool.not_eq_true', decide_eq_false_iff_not] at hh
      rw [List.nodup_append]
      refine ⟨h, by simp, fun a ha b hb => ?_⟩
      simp at hb
      rintro rfl
      exact hh.1 (hb ▸ ha)
    · exact h
theorem allOf_nodup (l : List Vote) : (allOf l).Nodup := allFold_nodup l l [[]] (by simp)
end Go.Wt

/- Worlds in form. -/
set_option linter.unusedVariables false
set_option linter.unusedSimpArgs false
namespace Go.Wt
def shownB (w : Wrld) (v : Vote) : Bool := decide (v.by_ = w.bad) || decide (v ∈ w.log)
def nodeIn (w : Wrld) (i : Nat) (n : Nod) : Bool := nodeOk n && decide (n.id = (i : Int) + 1) && decide (n.epoch = w.epoch) && !(n.seen.any fun v => !shownB w v)
def nodesOkFrom (w : Wrld) : List Nod → Nat → Bool
  | [], _ => true
  | n :: r, i => nodeIn w i n && nodesOkFrom w r (i + 1)
def worldOk0 (w : Wrld) : Bool := within w.epoch 0 30 && within w.bad 0 4 && decide (w.nodes.length = 4) && decide (w.log.length ≤ 80) && votesOk w.log
def worldOk (w : Wrld) : Bool := worldOk0 w && nodesOkFrom w w.nodes 0
theorem nodesOk_drop {w : Wrld} {l : List Nod} {k : Nat} {x : Nod} (h : l[k]? = some x) : nodesOkFrom w (l.drop k) k = (nodeIn w k x && nodesOkFrom w (l.drop (k + 1)) (k + 1)) := by
  rw [drop_at h]; rfl
theorem nodesOk_iff (w : Wrld) : ∀ (l : List Nod) (j : Nat), nodesOkFrom w l j = true ↔ ∀ (i : Nat) (n : Nod), l[i]? = some n → nodeIn w (j + i) n = true
  | [], j => by simp [nodesOkFrom]
  | x :: r, j => by
    simp only [nodesOkFrom, Bool.and_eq_true, nodesOk_iff w r (j + 1)]
    constructor
    · rintro ⟨h1, h2⟩ i n hi
      cases i with
      | zero => simp at hi; subst hi; exact h1
      | succ i =>
        have := h2 i n (by simpa using hi)
        rwa [show j + 1 + i = j + (i + 1) by omega] at this
    · intro h
      refine ⟨h 0 x rfl, fun i n hi => ?_⟩
      have := h (i + 1) n (by simpa using hi)
      rwa [show j + 1 + i = j + (i + 1) by omega]
structure WOk (w : Wrld) : Prop where
  fx : FineX w
  bad : within w.bad 0 4 = true
  node : ∀ (i : Nat) (n : Nod), w.nodes[i]? = some n → n.id = (i : Int) + 1 ∧ n.epoch = w.epoch ∧ ∀ v ∈ n.seen, v.by_ = w.bad ∨ v ∈ w.log
theorem worldOk_iff {w : Wrld} : worldOk w = true ↔ WOk w := by
  unfold worldOk worldOk0
  simp only [Bool.and_eq_true, nodesOk_iff, Nat.zero_add, decide_eq_true_eq]
  have hin : ∀ i n, nodeIn w i n = true ↔ nodeOk n = true ∧ n.id = (i : Int) + 1 ∧ n.epoch = w.epoch ∧ ∀ v ∈ n.seen, v.by_ = w.bad ∨ v ∈ w.log := fun i n => by
    unfold nodeIn shownB
    simp only [Bool.and_eq_true, decide_eq_true_eq, Bool.not_eq_true', List.any_eq_false, Bool.or_eq_false_iff, decide_eq_false_iff_not, and_assoc, Bool.not_eq_false', Bool.or_eq_true, Bool.not_eq_true]
    constructor
    · rintro ⟨a, b, c, d⟩
      exact ⟨a, b, c, fun v hv => by have := d v hv; by_cases hb : v.by_ = w.bad <;> simp_all⟩
    · rintro ⟨a, b, c, d⟩
      exact ⟨a, b, c, fun v hv => by have := d v hv; by_cases hb : v.by_ = w.bad <;> simp_all⟩
  constructor
  · rintro ⟨⟨⟨⟨⟨h1, h2⟩, h3⟩, h4⟩, h5⟩, h6⟩
    refine ⟨⟨by simpa [within] using h1, h3, h4, h5, fun n hn => ?_⟩, h2, fun i n hn => ((hin i n).1 (h6 i n hn)).2⟩
    obtain ⟨i, hi⟩ := List.mem_iff_getElem?.1 hn
    exact ((hin i n).1 (h6 i n hi)).1
  · rintro ⟨h1, h2, h3⟩
    refine ⟨⟨⟨⟨⟨by have := h1.ep; simpa [within] using this, h2⟩, h1.four⟩, h1.ll⟩, h1.log⟩, fun i n hn => (hin i n).2 ⟨h1.nodes n (List.mem_of_getElem? hn), h3 i n hn⟩⟩
theorem Inv.wok {w : Wrld} (h : Inv w) : WOk w := ⟨h.ok, h.bad, fun i n hn => by
  have hN := h.nodes i n hn
  refine ⟨hN.id, hN.ep, fun v hv => ?_⟩
  by_cases hb : n.id = w.bad
  · rw [hN.idle hb] at hv; cases hv
  · exact .inr (hN.sub hb v hv)⟩
theorem Inv.worldOk {w : Wrld} (h : Inv w) : worldOk w = true := worldOk_iff.2 h.wok
end Go.Wt

/- Worlds in form; what happens in a world, for outsiders. -/
set_option linter.unusedVariables false
set_option linter.unusedSimpArgs false
namespace Go.Proofs.Ytlepfdmolankeaa
open Go Go.Wt
theorem shown_w_ct (v : Vote) (hO : Nat → Wt.Obj) (w : Wrld) (ho : hO 0 = .cell w) (hf : hO 9 = .free) (hH : ∀ o, obOk (pH hO) (hO o)) :
    Ct Try.prog 86 [.box 0 (IsLens.whole Wrld), .v v] hO (fun r1 h1 => r1 = .v (shownB w v) ∧ h1 = hO) := by
  refine Ct.intro Try.func86 rfl rfl ?_
  all_goals refine awp_seq (awp_region (id := 0) ?_)
  all_goals refine awpOps_cons (op_box (o := 9) ty35 rfl (Conv.of rfl) hf rfl) ?_
  all_goals refine awpOps_cons (op_as rfl (Conv.of rfl) rfl) ?_
  all_goals refine awpOps_nil ?_
  all_goals refine awp_seq (dr_start (id := 1) ?_)
  all_goals refine dr_cons (op_fab f35_0 rfl rfl) ?_
  all_goals refine dr_cons (op_ld ty3 rfl rfl rfl) ?_
  all_goals refine dr_cons (op_mv rfl (Conv.of rfl) rfl) ?_
  all_goals refine dr_cons (op_nilc_box rfl rfl) ?_
  all_goals refine dr_cons (op_fab f29_3 rfl rfl) ?_
  all_goals refine dr_cons (op_ld ty3 rfl ho rfl) ?_
  all_goals refine dr_cons (op_eql rfl rfl rfl) ?_
  all_goals refine dr_cons (op_mv rfl (Conv.of rfl) rfl) ?_
  all_goals refine dr_split (t := 12) rfl (fun h => ?_) (fun h => ?_)
  all_goals first | refine dr_cons (g_off rfl rfl rfl rfl rfl) ?_ | refine dr_cons (g_on rfl rfl rfl (op_mv rfl (Conv.of rfl) rfl)) ?_
  all_goals first | refine dr_cons (g_off rfl rfl rfl rfl rfl) ?_ | refine dr_cons (g_on rfl rfl rfl (op_nilc_box rfl rfl)) ?_
  all_goals first | refine dr_cons (g_off rfl rfl rfl rfl rfl) ?_ | refine dr_cons (g_on rfl rfl rfl (op_fab f29_2 rfl rfl)) ?_
  all_goals first | refine dr_cons (g_off rfl rfl rfl rfl rfl) ?_ | refine dr_cons (g_on rfl rfl rfl (op_ld ty27 rfl ho rfl)) ?_
  all_goals first | refine dr_cons (g_off rfl rfl rfl rfl rfl) ?_ | refine dr_cons (g_on rfl rfl rfl (op_ld ty35 rfl rfl rfl)) ?_
  all_goals first | refine dr_cons (g_off rfl rfl rfl rfl rfl) ?_ | refine dr_cons (g_on rfl rfl rfl (op_call fb75 (.cons rfl (Conv.of rfl) (.cons rfl (Conv.of rfl) (.nil _))) (has_ct _ _) (argOk rfl rfl (argOk rfl rfl argOk0)) rfl rfl)) ?_
  all_goals refine dr_cons (op_pick rfl rfl rfl rfl) ?_
  all_goals refine dr_cons (op_as rfl (Conv.of rfl) rfl) ?_
  all_goals refine dr_nil mixed rfl ?_
  all_goals refine awp_ret ?_
  all_goals refine finF (.v rfl (Conv.of rfl)) rfl ?_ (by intro o ho; by_cases e : o = 9 <;> first | (exfalso; subst e; rw [hf] at ho; exact absurd ho (by decide)) | simp only [st0, St.upd, lk, orr, if_neg e]) hH
  all_goals (simp_all [FV.av, shownB])
theorem okFn_ct (v : Vote) (hO : Nat → Wt.Obj) (w : Wrld) (ho : hO 0 = .cell w) (hf : hO 8 = .free) (hf9 : hO 9 = .free) (hH : ∀ o, obOk (pH hO) (hO o)) :
    Ct Try.prog 85 [.v v, .box 0 (IsLens.whole Wrld)] hO (fun r1 h1 => r1 = .v (!shownB w v) ∧ h1 = hO) := by
  refine Ct.intro Try.func85 rfl rfl ?_
  all_goals refine awp_seq (awp_region (id := 0) ?_)
  all_goals refine awpOps_cons (op_box (o := 8) ty35 rfl (Conv.of rfl) hf rfl) ?_
  all_goals refine awpOps_cons (op_as rfl (Conv.of rfl) rfl) ?_
  all_goals refine awpOps_nil ?_
  have hH' : ∀ o, obOk (pH (fun o => orr (lk [(8, Wt.Obj.cell v)] o) (hO o))) (orr (lk [(8, Wt.Obj.cell v)] o) (hO o)) := fun o => by
    by_cases e : o = 8
    · subst e; exact plain_refs _
    · have := hH o
      simp only [lk, if_neg e, orr]
      cases hx : hO o with
      | free => trivial
      | dead => trivial
      | cell x =>
        rw [hx] at this
        intro o' h'
        have h2 := this o' h'
        unfold pH at h2 ⊢
        by_cases e' : o' = 8
        · subst e'; rfl
        · simpa [lk, e', orr] using h2
      | arr xs =>
        rw [hx] at this
        intro x hx' o' h'
        have h2 := this x hx' o' h'
        unfold pH at h2 ⊢
        by_cases e' : o' = 8
        · subst e'; rfl
        · simpa [lk, e', orr] using h2
  all_goals refine awp_seq (awp_region (id := 1) ?_)
  all_goals refine awpOps_cons (op_ld ty35 rfl rfl rfl) ?_
  all_goals refine awpOps_callH (h := fun o => orr (lk [(8, Wt.Obj.cell v)] o) (hO o)) rfl (fb86) (.cons rfl (Conv.of rfl) (.cons rfl (Conv.of rfl) (.nil _))) rfl (shown_w_ct v _ w (by simpa [lk, orr] using ho) (by simpa [lk, orr] using hf9) hH') (Hand.none (Hand.l1 ⟨rfl, fun o ho' => by simp [AV.refs] at ho'; subst ho'; simp [pH, lk, orr, ho, isFree]⟩ (Hand.l1 (Hand.of rfl rfl) Hand.l0))) hH' rfl rfl ?_
  all_goals refine awpOps_cons (op_not rfl rfl) ?_
  all_goals refine awpOps_cons (op_as rfl (Conv.of rfl) rfl) ?_
  all_goals refine awpOps_nil ?_
  all_goals refine awp_ret ?_
  all_goals refine finF (.v rfl (Conv.of rfl)) rfl rfl (by intro o ho'; by_cases e : o = 8 <;> first | (exfalso; subst e; rw [hf] at ho'; exact absurd ho' (by decide)) | simp only [st0, St.upd, lk, orr, if_neg e]) hH
set_option maxHeartbeats 2000000 in
theorem worldOk_ct (w : Wrld) : CtP Try.prog 56 [.v w] (.v (worldOk w)) := by
  refine Ct.intro Try.func56 rfl rfl ?_
  all_goals refine awp_seq (awp_region (id := 0) ?_)
  all_goals refine awpOps_cons (op_box (o := 0) ty29 rfl (Conv.of rfl) rfl rfl) ?_
  all_goals refine awpOps_cons (op_as rfl (Conv.of rfl) rfl) ?_
  all_goals refine awpOps_nil ?_
  refine awp_seq (awp_seq_to (s' := mkSt 63 [(1, .box 0 (IsLens.whole Wrld)), (32, .v (!worldOk0 w))] [(0, .cell w)]) ?_ ?_)
  · all_goals refine awp_region (id := 1) ?_
    all_goals refine awpOps_cons (op_fab f29_0 rfl rfl) ?_
    all_goals refine awpOps_cons (op_ld ty3 rfl rfl rfl) ?_
    all_goals refine awpOps_cons (op_call fb50 (.cons rfl (Conv.of rfl) (.cons rfl (Conv.of rfl) (.cons rfl (Conv.of rfl) (.nil _)))) (within_ct _ _ _) (argOk rfl rfl (argOk rfl rfl (argOk rfl rfl argOk0))) rfl rfl) ?_
    all_goals refine awpOps_cons (op_not rfl rfl) ?_
    all_goals refine awpOps_cons (op_mv rfl (Conv.of rfl) rfl) ?_
    all_goals refine g_split (t := 9) rfl (fun h => ?_) (fun h => ?_)
    all_goals first | refine awpOps_cons (g_off rfl rfl rfl rfl rfl) ?_ | refine awpOps_cons (g_on rfl rfl rfl (op_fab f29_3 rfl rfl)) ?_
    all_goals first | refine awpOps_cons (g_off rfl rfl rfl rfl rfl) ?_ | refine awpOps_cons (g_on rfl rfl rfl (op_ld ty3 rfl rfl rfl)) ?_
    all_goals first | refine awpOps_cons (g_off rfl rfl rfl rfl rfl) ?_ | refine awpOps_cons (g_on rfl rfl rfl (op_call fb50 (.cons rfl (Conv.of rfl) (.cons rfl (Conv.of rfl) (.cons rfl (Conv.of rfl) (.nil _)))) (within_ct _ _ _) (argOk rfl rfl (argOk rfl rfl (argOk rfl rfl argOk0))) rfl rfl)) ?_
    all_goals first | refine awpOps_cons (g_off rfl rfl rfl rfl rfl) ?_ | refine awpOps_cons (g_on rfl rfl rfl (op_not rfl rfl)) ?_
    all_goals refine awpOps_cons (op_pick rfl rfl rfl rfl) ?_
    all_goals refine awpOps_cons (op_mv rfl (Conv.of rfl) rfl) ?_
    all_goals first | refine g_lit (t := 15) (b := true) rfl ?_ | refine g_split (t := 15) rfl (fun h => ?_) (fun h => ?_)
    all_goals first | refine awpOps_cons (g_off rfl rfl rfl rfl rfl) ?_ | refine awpOps_cons (g_on rfl rfl rfl (op_fab f29_1 rfl rfl)) ?_
    all_goals first | refine awpOps_cons (g_off rfl rfl rfl rfl rfl) ?_ | refine awpOps_cons (g_on rfl rfl rfl (op_ld ty26 rfl rfl rfl)) ?_
    all_goals first | refine awpOps_cons (g_off rfl rfl rfl rfl rfl) ?_ | refine awpOps_cons (g_on rfl rfl rfl (op_len sl26 rfl rfl)) ?_
    all_goals first | refine awpOps_cons (g_off rfl rfl rfl rfl rfl) ?_ | refine awpOps_cons (g_on rfl rfl rfl (op_neq rfl rfl rfl)) ?_
    all_goals refine awpOps_cons (op_pick rfl rfl rfl rfl) ?_
    all_goals refine awpOps_cons (op_mv rfl (Conv.of rfl) rfl) ?_
    all_goals first | refine g_lit (t := 21) (b := true) rfl ?_ | refine g_split (t := 21) rfl (fun h => ?_) (fun h => ?_)
    all_goals first | refine awpOps_cons (g_off rfl rfl rfl rfl rfl) ?_ | refine awpOps_cons (g_on rfl rfl rfl (op_fab f29_2 rfl rfl)) ?_
    all_goals first | refine awpOps_cons (g_off rfl rfl rfl rfl rfl) ?_ | refine awpOps_cons (g_on rfl rfl rfl (op_ld ty27 rfl rfl rfl)) ?_
    all_goals first | refine awpOps_cons (g_off rfl rfl rfl rfl rfl) ?_ | refine awpOps_cons (g_on rfl rfl rfl (op_len sl27 rfl rfl)) ?_
    all_goals first | refine awpOps_cons (g_off rfl rfl rfl rfl rfl) ?_ | refine awpOps_cons (g_on rfl rfl rfl (op_gtr rfl rfl rfl)) ?_
    all_goals refine awpOps_cons (op_pick rfl rfl rfl rfl) ?_
    all_goals refine awpOps_cons (op_mv rfl (Conv.of rfl) rfl) ?_
    all_goals first | refine g_lit (t := 27) (b := true) rfl ?_ | refine g_split (t := 27) rfl (fun h => ?_) (fun h => ?_)
    all_goals first | refine awpOps_cons (g_off rfl rfl rfl rfl rfl) ?_ | refine awpOps_cons (g_on rfl rfl rfl (op_fab f29_2 rfl rfl)) ?_
    all_goals first | refine awpOps_cons (g_off rfl rfl rfl rfl rfl) ?_ | refine awpOps_cons (g_on rfl rfl rfl (op_ld ty27 rfl rfl rfl)) ?_
    all_goals first | refine awpOps_cons (g_off rfl rfl rfl rfl rfl) ?_ | refine awpOps_cons (g_on rfl rfl rfl (op_call fb44 (.cons rfl (Conv.of rfl) (.nil _)) (votesOk_ct _) (argOk rfl rfl argOk0) rfl rfl)) ?_
    all_goals first | refine awpOps_cons (g_off rfl rfl rfl rfl rfl) ?_ | refine awpOps_cons (g_on rfl rfl rfl (op_not rfl rfl)) ?_
    all_goals refine awpOps_cons (op_pick rfl rfl rfl rfl) ?_
    all_goals refine awpOps_nil ?_
    all_goals exact Le.mk rfl (tlb rfl rfl rfl (tle rfl (by (simp_all [worldOk0] <;> omega)) rfl tln)) (olk rfl (by exact obOk_cell) oln) noS
  refine awp_cond rfl (fun h => ?_) (fun h => ?_)
  · all_goals refine awp_seq (awp_region (id := 2) ?_)
    all_goals refine awpOps_cons (op_as rfl (Conv.of rfl) rfl) ?_
    all_goals refine awpOps_nil ?_
    refine awp_ret ?_
    repeat first | refine rt_seq ?_ | refine rt_block ?_
    refine finP (.v rfl (Conv.of rfl)) rfl ?_
    show AV.v false = _
    simp [worldOk, not_t h]
  · have h0 := not_f h
    have heq : worldOk w = nodesOkFrom w w.nodes 0 := by rw [worldOk, h0, Bool.true_and]
    refine awp_skip ?_
    all_goals refine awp_seq (awp_seq (awp_region (id := 3) ?_))
    all_goals refine awpOps_cons (op_fab f29_1 rfl rfl) ?_
    all_goals refine awpOps_cons (op_ld ty26 rfl rfl rfl) ?_
    refine awpOps_bigL 34 rfl (fun hB => ?_)
    all_goals refine awpOps_cons (op_len sl26 rfl rfl) ?_
    all_goals refine awpOps_cons (op_mv rfl (Conv.of rfl) rfl) ?_
    all_goals refine awpOps_nil ?_
    refine awp_block ?_
    refine awp_loop' (fun n_ s => ∃ (k : Nat), ∃ (hn : n_ + k = w.nodes.length), ∃ (hall : worldOk w = nodesOkFrom w (w.nodes.drop k) k), s = mkSt 63 [(1, .box 0 (IsLens.whole Wrld)), (34, .v w.nodes), (35, .v (w.nodes.length : Int)), (36, .v (k : Int))] [(0, .cell w)]) (w.nodes.length) ⟨0, by omega, heq, rfl⟩ (Le.mk rfl (tlb rfl rfl rfl (tle rfl (rfl) rfl (tle rfl (rfl) rfl (tle rfl (rfl) rfl tln)))) (olk rfl (by exact obOk_cell) oln) noS) ?_
    rintro n_ s ⟨k, hn, hall, rfl⟩
    all_goals refine awp_seq (awp_region (id := 4) ?_)
    all_goals refine awpOps_cons (op_lss rfl rfl rfl) ?_
    all_goals refine awpOps_nil ?_
    refine awp_seq (awp_cond rfl (fun h => ?_) (fun h => ?_))
    · have hlt : k < w.nodes.length := by simpa using h
      have hx : w.nodes[k]? = some w.nodes[k] := List.getElem?_eq_getElem hlt
      generalize w.nodes[k] = a at hx
      have hs := nodesOk_drop (w := w) hx
      refine awp_skip ?_
      refine awp_seq (awp_block ?_)
      all_goals refine awp_seq (awp_region (id := 5) ?_)
      all_goals refine awpOps_cons (op_mv rfl (Conv.of rfl) rfl) ?_
      all_goals refine awpOps_cons (op_ix sl26 rfl rfl rfl (by omega) hx) ?_
      all_goals refine awpOps_cons (op_ldr ty44 rfl rfl) ?_
      all_goals refine awpOps_cons (op_alloc (o := 1) z44 rfl rfl) ?_
      all_goals refine awpOps_cons (op_as rfl (Conv.of rfl) rfl) ?_
      all_goals refine awpOps_cons (op_st ty44 rfl rfl (Conv.of rfl) rfl) ?_
      all_goals refine awpOps_nil ?_
      refine awp_seq (awp_seq_to (s' := mkSt 63 [(1, .box 0 (IsLens.whole Wrld)), (4, .box 1 (IsLens.whole Nod)), (34, .v w.nodes), (35, .v (w.nodes.length : Int)), (36, .v (k : Int)), (57, .v (!(nodeOk a && decide (a.id = (k : Int) + 1) && decide (a.epoch = w.epoch))))] [(0, .cell w), (1, .cell a)]) ?_ ?_)
      · all_goals refine awp_region (id := 6) ?_
        all_goals refine awpOps_cons (op_ld ty44 rfl rfl rfl) ?_
        all_goals refine awpOps_cons (op_call fb24 (.cons rfl (Conv.of rfl) (.nil _)) (nodeOk_ct _) (argOk rfl rfl argOk0) rfl rfl) ?_
        all_goals refine awpOps_cons (op_not rfl rfl) ?_
        all_goals refine awpOps_cons (op_mv rfl (Conv.of rfl) rfl) ?_
        all_goals refine g_split (t := 44) rfl (fun h => ?_) (fun h => ?_)
        all_goals first | refine awpOps_cons (g_off rfl rfl rfl rfl rfl) ?_ | refine awpOps_cons (g_on rfl rfl rfl (op_fab f44_0 rfl rfl)) ?_
        all_goals first | refine awpOps_cons (g_off rfl rfl rfl rfl rfl) ?_ | refine awpOps_cons (g_on rfl rfl rfl (op_ld ty3 rfl rfl rfl)) ?_
        all_goals first | refine awpOps_cons (g_off rfl rfl rfl rfl rfl) ?_ | refine awpOps_cons (g_on rfl rfl rfl (op_mv rfl (Conv.of rfl) rfl)) ?_
        all_goals first | refine awpOps_cons (g_off rfl rfl rfl rfl rfl) ?_ | refine awpOps_cons (g_on rfl rfl rfl (op_add rfl rfl rfl (by omega))) ?_
        all_goals first | refine awpOps_cons (g_off rfl rfl rfl rfl rfl) ?_ | refine awpOps_cons (g_on rfl rfl rfl (op_neq rfl rfl rfl)) ?_
        all_goals refine awpOps_cons (op_pick rfl rfl rfl rfl) ?_
        all_goals refine awpOps_cons (op_mv rfl (Conv.of rfl) rfl) ?_
        all_goals first | refine g_lit (t := 51) (b := true) rfl ?_ | refine g_split (t := 51) rfl (fun h => ?_) (fun h => ?_)
        all_goals first | refine awpOps_cons (g_off rfl rfl rfl rfl rfl) ?_ | refine awpOps_cons (g_on rfl rfl rfl (op_fab f44_1 rfl rfl)) ?_
        all_goals first | refine awpOps_cons (g_off rfl rfl rfl rfl rfl) ?_ | refine awpOps_cons (g_on rfl rfl rfl (op_ld ty3 rfl rfl rfl)) ?_
        all_goals first | refine awpOps_cons (g_off rfl rfl rfl rfl rfl) ?_ | refine awpOps_cons (g_on rfl rfl rfl (op_fab f29_0 rfl rfl)) ?_
        all_goals first | refine awpOps_cons (g_off rfl rfl rfl rfl rfl) ?_ | refine awpOps_cons (g_on rfl rfl rfl (op_ld ty3 rfl rfl rfl)) ?_
        all_goals first | refine awpOps_cons (g_off rfl rfl rfl rfl rfl) ?_ | refine awpOps_cons (g_on rfl rfl rfl (op_neq rfl rfl rfl)) ?_
        all_goals refine awpOps_cons (op_pick rfl rfl rfl rfl) ?_
        all_goals refine awpOps_nil ?_
        all_goals exact Le.mk rfl (tlb rfl rfl rfl (tlb rfl rfl rfl (tle rfl (rfl) rfl (tle rfl (rfl) rfl (tle rfl (rfl) rfl (tle rfl (by (simp_all; try rfl)) rfl tln)))))) (olk rfl (by exact obOk_cell) (olk rfl (by exact obOk_cell) oln)) noS
      refine awp_cond rfl (fun h2 => ?_) (fun h2 => ?_)
      · all_goals refine awp_seq (awp_region (id := 7) ?_)
        all_goals refine awpOps_cons (op_as rfl (Conv.of rfl) rfl) ?_
        all_goals refine awpOps_nil ?_
        refine awp_ret ?_
        repeat first | refine rt_seq ?_ | refine rt_block ?_
        refine finP (.v rfl (Conv.of rfl)) rfl ?_
        show AV.v false = _
        rw [hall, hs, nodeIn, not_t h2, Bool.false_and, Bool.false_and]
      · have h2' := not_f h2
        refine awp_skip ?_
        all_goals refine awp_seq (awp_region (id := 8) ?_)
        all_goals refine awpOps_cons (op_fab f44_3 rfl rfl) ?_
        all_goals refine awpOps_cons (op_ld ty27 rfl rfl rfl) ?_
        all_goals refine awpOps_cons (op_mf (f := 85) .nil (.cons (r := .box 0 (IsLens.whole Wrld)) rfl (Conv.of rfl) .nil) rfl) ?_
        all_goals refine awpOps_callH rfl (fb51) (.cons rfl (Conv.of rfl) (.cons rfl (Conv.of rfl) (.nil _))) rfl (containsV_ct _ _ [] [.box 0 (IsLens.whole Wrld)] _ (fun v => !shownB w v) (fb85) (fun x hx => okFn_ct x _ w rfl rfl rfl (fun o => by by_cases e : o = 0 <;> by_cases e1 : o = 1 <;> simp [mkSt, st0, St.upd, lk, lk0, orr, e, e1, obOk, noObj] <;> exact plain_refs _)) (by intro z hz; simp [avs, FV.av] at hz; subst hz; exact ⟨rfl, fun o ho => by simp [AV.refs] at ho; subst ho; rfl⟩) (fun o => by by_cases e : o = 0 <;> by_cases e1 : o = 1 <;> simp [mkSt, st0, St.upd, lk, lk0, orr, e, e1, obOk, noObj] <;> exact plain_refs _)) (Hand.none (Hand.l1 (Hand.of rfl rfl) (Hand.l1 ⟨rfl, fun o ho => by simp [AV.refs, FV.refs] at ho; subst ho; rfl⟩ Hand.l0))) (fun o => by by_cases e : o = 0 <;> by_cases e1 : o = 1 <;> simp [mkSt, st0, St.upd, lk, lk0, orr, e, e1, obOk, noObj] <;> exact plain_refs _) rfl rfl ?_
        all_goals refine awpOps_nil ?_
        refine awp_cond rfl (fun h3 => ?_) (fun h3 => ?_)
        · all_goals refine awp_seq (awp_region (id := 9) ?_)
          all_goals refine awpOps_cons (op_as rfl (Conv.of rfl) rfl) ?_
          all_goals refine awpOps_nil ?_
          refine awp_ret ?_
          repeat first | refine rt_seq ?_ | refine rt_block ?_
          refine finP (.v rfl (Conv.of rfl)) rfl ?_
          show AV.v false = _
          rw [hall, hs, nodeIn, h3, Bool.not_true, Bool.and_false, Bool.false_and]
        · refine awp_skip ?_
          all_goals refine awp_region (id := 10) ?_
          all_goals refine awpOps_cons (op_add rfl rfl rfl (by omega)) ?_
          all_goals refine awpOps_cons (op_mv rfl (Conv.of rfl) rfl) ?_
          all_goals refine awpOps_nil ?_
          repeat first | refine nx_seq ?_ | refine nx_block ?_
          exact ⟨n_ - 1, _, by omega, ⟨k + 1, by omega, by rw [hall, hs, nodeIn, h2', h3]; rfl, rfl⟩, Le.mk rfl (tlb rfl rfl rfl (tle rfl (rfl) rfl (tle rfl (rfl) rfl (tle rfl (rfl) rfl tln)))) (olk rfl (by exact obOk_cell) oln) noS⟩
    · refine awp_exit ?_
      repeat refine ex_seq ?_
      refine ex_block ?_
      have hk : w.nodes.length ≤ k := by simpa using h
      all_goals refine awp_seq (awp_region (id := 11) ?_)
      all_goals refine awpOps_cons (op_as rfl (Conv.of rfl) rfl) ?_
      all_goals refine awpOps_nil ?_
      refine awp_ret ?_
      repeat first | refine rt_seq ?_ | refine rt_block ?_
      refine finP (.v rfl (Conv.of rfl)) rfl ?_
      show AV.v true = _
      rw [hall, drop_end hk]; rfl
theorem worldDoBad_ct (w : Wrld) (e : Evt) (h : worldOk w = false) : CtP Try.prog 28 [.v w, .v e] (.v Wrld.zero) := by
  refine Ct.intro Try.func28 rfl rfl ?_
  all_goals refine awp_seq (awp_region (id := 0) ?_)
  all_goals refine awpOps_cons (op_box (o := 0) ty29 rfl (Conv.of rfl) rfl rfl) ?_
  all_goals refine awpOps_cons (op_box (o := 1) ty47 rfl (Conv.of rfl) rfl rfl) ?_
  all_goals refine awpOps_cons (op_alloc (o := 2) z29 rfl rfl) ?_
  all_goals refine awpOps_nil ?_
  all_goals refine awp_seq (awp_seq (awp_region (id := 1) ?_))
  all_goals refine awpOps_cons (op_ld ty29 rfl rfl rfl) ?_
  all_goals refine awpOps_cons (op_call fb56 (.cons rfl (Conv.of rfl) (.nil _)) (worldOk_ct _) (argOk rfl rfl argOk0) rfl rfl) ?_
  all_goals refine awpOps_cons (op_not rfl rfl) ?_
  all_goals refine awpOps_nil ?_
  refine awp_cond rfl (fun h2 => ?_) (fun h2 => absurd (not_f h2) (by rw [h]; decide))
  all_goals refine awp_seq (awp_region (id := 2) ?_)
  all_goals refine awpOps_cons (op_build (.nil _) z29 rfl pl29 rfl) ?_
  all_goals refine awpOps_cons (op_st ty29 rfl rfl (Conv.of rfl) rfl) ?_
  all_goals refine awpOps_nil ?_
  refine awp_ret ?_
  repeat first | refine rt_seq ?_ | refine rt_block ?_
  exact finP (.rc ty29 rfl rfl) rfl rfl
theorem worldDoA_ct (w : Wrld) (e : Evt) (h : worldOk w = true) : Ct Try.prog 28 [.v w, .v e] noObj (fun r1 h1 => r1 = .v (WrldA.mk (doF w e).epoch (.ref 2) (doF w e).log (doF w e).bad) ∧ h1 = obs [(2, .arr (doF w e).nodes)]) := by
  have hf := (worldOk_iff.1 h).fx.fine
  have hfd := doF_fine e hf
  refine Ct.intro Try.func28 rfl rfl ?_
  all_goals refine awp_seq (awp_region (id := 0) ?_)
  all_goals refine awpOps_cons (op_box (o := 5) ty29 rfl (Conv.of rfl) rfl rfl) ?_
  all_goals refine awpOps_cons (op_box (o := 6) ty47 rfl (Conv.of rfl) rfl rfl) ?_
  all_goals refine awpOps_cons (op_alloc (o := 7) z29_WrldA rfl rfl) ?_
  all_goals refine awpOps_nil ?_
  all_goals refine awp_seq (awp_seq (awp_region (id := 1) ?_))
  all_goals refine awpOps_cons (op_ld ty29_Wrld rfl rfl rfl) ?_
  all_goals refine awpOps_cons (op_call fb56 (.cons rfl (Conv.of rfl) (.nil _)) (worldOk_ct _) (argOk rfl rfl argOk0) rfl rfl) ?_
  all_goals refine awpOps_cons (op_not rfl rfl) ?_
  all_goals refine awpOps_nil ?_
  refine awp_cond rfl (fun h2 => absurd (not_t h2) (by rw [h]; decide)) (fun h2 => ?_)
  refine awp_skip ?_
  all_goals refine awp_seq (awp_region (id := 3) ?_)
  all_goals refine awpOps_cons (op_ld ty29_Wrld rfl rfl rfl) ?_
  refine awpOps_callO [] rfl fb37 (.cons rfl (Conv.of rfl) (.nil _)) (copiedP_w w hf) ols0 oks0 (argOk' rfl rfl argO0) rfl ?_
  rintro r h' ⟨rfl, rfl⟩
  refine ⟨[(1, .arr w.nodes)], rfl, (fun o ho => by cases ho), fun o ho _ => ?_, oksk obOk_arr oks0, fun o ho => ?_, ?_⟩
  · have : o = 1 := by simpa [keys, lk0] using ho
    subst this; rfl
  · have : o = 1 := by simpa using (show o ∈ [1] from ho)
    subst this; rfl
  all_goals refine awpOps_cons (op_alloc (o := 0) z29_WrldA rfl rfl) ?_
  all_goals refine awpOps_cons (op_st ty29_WrldA rfl rfl (Conv.of rfl) rfl) ?_
  all_goals refine awpOps_nil ?_
  all_goals refine awp_seq (awp_region (id := 4) ?_)
  all_goals refine awpOps_cons (op_ld ty47 rfl rfl rfl) ?_
  all_goals refine awpOps_cons (op_callO fb36 (.cons rfl (Conv.of rfl) (.cons rfl (Conv.of rfl) (.nil _))) (do_ct w e hf) (olsk rfl (olsk rfl ols0)) (oksk (by exact obOkW rfl) (oksk (by exact obOk_arr) oks0)) (oksk (by exact obOkW rfl) (oksk (by exact obOk_arr) oks0)) rfl (argOb rfl rfl rfl (argOk' rfl rfl argO0)) (fun o ho => by cases ho) rfl) ?_
  all_goals refine awpOps_nil ?_
  all_goals refine awp_seq (awp_region (id := 5) ?_)
  all_goals refine awpOps_cons (op_ld ty29_WrldA rfl rfl rfl) ?_
  refine awpOps_callO [(1, .arr (doF w e).nodes)] rfl fb37 (.cons rfl (Conv.of rfl) (.nil _)) (copiedA_w _ hfd) (olsk rfl ols0) (oksk obOk_arr oks0) (argOb rfl rfl rfl argO0) rfl ?_
  rintro r h' ⟨rfl, rfl⟩
  refine ⟨[(1, .arr (doF w e).nodes), (2, .arr (doF w e).nodes)], rfl, fun o ho => ?_, fun o ho h1 => ?_, oksk obOk_arr (oksk obOk_arr oks0), fun o ho => ?_, ?_⟩
  · have : o = 1 := by simpa [keys, lk0] using ho
    subst this; rfl
  · by_cases e1 : o = 1
    · subst e1; cases h1
    · have : o = 2 := by simpa [keys, lk0, e1] using ho
      subst this; rfl
  · have : o = 2 := by simpa using (show o ∈ [2] from ho)
    subst this; rfl
  all_goals refine awpOps_cons (op_st ty29_WrldA rfl rfl (Conv.of rfl) rfl) ?_
  all_goals refine awpOps_nil ?_
  refine awp_ret ?_
  repeat first | refine rt_seq ?_ | refine rt_block ?_
  refine ⟨_, _, res1 (ol := [(2, .arr (doF w e).nodes)]) (.rc ty29_WrldA rfl rfl) (fun o ho => ?_) (olk rfl obOk_arr oln) noS, rfl, rfl⟩
  have : o = 2 := by simpa using (show o ∈ [2] from ho)
  subst this; rfl
def worldDoR (w : Wrld) (e : Evt) : Wrld := if worldOk w then doF w e else Wrld.zero
theorem worldDo_ct (w : Wrld) (e : Evt) : CtP Try.prog 28 [.v w, .v e] (.v (worldDoR w e)) := by
  unfold worldDoR
  cases h : worldOk w with
  | false => exact worldDoBad_ct w e h
  | true => exact Ct.frz (worldDoA_ct w e h) (frz_one (big4 (doF_fine e (worldOk_iff.1 h).fx.fine).four))
end Go.Proofs.Ytlepfdmolankeaa
