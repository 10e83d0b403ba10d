/- The law FnWorldSure returns true at every input, and leaves its arguments as they were. No condition. -/
import Derived.Test.YtlepfdmolankeaaM5
import Derived.Test.YtlepfdmolankeaaRows
import Derived.WalkKit
import Derived.ProofKit
import Derived.OpenShut
import Derived.ShutString
import Derived.ChangeOld
import Derived.Below
import Derived.SizedLaws
import Derived.KernelRfl
/- A law: of one epoch at most one chain is sure. -/
set_option linter.unusedVariables false
set_option linter.unusedSimpArgs false
namespace Go.Proofs.Ytlepfdmolankeaa
open Go Go.Wt
set_option maxHeartbeats 2000000 in
theorem FnWorldSure_ct (code : List UInt8) : CtP Try.prog 9 [.v code] (.v true) := by
  refine Ct.intro Try.func9 rfl rfl ?_
  all_goals refine awp_seq (awp_region (id := 0) ?_)
  all_goals refine awpOps_cons (op_as rfl (Conv.of rfl) rfl) ?_
  all_goals refine awpOps_nil ?_
  all_goals refine awp_seq (awp_seq (awp_region (id := 1) ?_))
  all_goals refine awpOps_cons (op_mv rfl (Conv.of rfl) rfl) ?_
  all_goals refine awpOps_cons (op_len sl22 rfl rfl) ?_
  all_goals refine awpOps_cons (op_gtr rfl rfl rfl) ?_
  all_goals refine awpOps_nil ?_
  refine awp_cond rfl (fun h => ?_) (fun h => ?_)
  · all_goals refine awp_seq (awp_region (id := 2) ?_)
    all_goals refine awpOps_cons (op_as rfl (Conv.of rfl) rfl) ?_
    all_goals refine awpOps_nil ?_
    refine awp_ret ?_
    repeat first | refine rt_seq ?_ | refine rt_block ?_
    exact finP (.v rfl (Conv.of rfl)) rfl rfl
  refine awp_skip ?_
  all_goals refine awp_seq (awp_region (id := 3) ?_)
  all_goals refine awpOps_cons (op_mv rfl (Conv.of rfl) rfl) ?_
  refine awpOps_callE (ι := Int × List Evt) [] (fun i => .tup [.v i.1, .v i.2]) (fun _ => []) (fun i => i.2.length ≤ 100) rfl fb15 (.cons rfl (Conv.of rfl) (.nil _)) (drawPlay_ct code) (fun r h' ⟨bad, evs, e1, e2, e3⟩ => ⟨(bad, evs), e1, e2, e3⟩) ols0 oks0 (argOk' rfl rfl argO0) rfl (fun _ => rfl) (fun _ => oks0) (fun _ o ho => by cases ho) ?_
  rintro ⟨bad, evs⟩ he
  simp only at he ⊢
  all_goals refine awpOps_cons (op_mv rfl (Conv.of rfl) rfl) ?_
  all_goals refine awpOps_cons (op_ext rfl rfl rfl) ?_
  all_goals refine awpOps_cons (op_ext rfl rfl rfl) ?_
  all_goals refine awpOps_cons (op_as rfl (Conv.of rfl) rfl) ?_
  all_goals refine awpOps_cons (op_as rfl (Conv.of rfl) rfl) ?_
  all_goals refine awpOps_nil ?_
  all_goals refine awp_seq (awp_region (id := 4) ?_)
  all_goals refine awpOps_cons (op_mv rfl (Conv.of rfl) rfl) ?_
  all_goals refine awpOps_cons (op_mv rfl (Conv.of rfl) rfl) ?_
  all_goals refine awpOps_cons (op_call fb16 (.cons rfl (Conv.of rfl) (.cons rfl (Conv.of rfl) (.nil _))) (iPlay_ct bad evs) (argOk rfl rfl (argOk rfl rfl argOk0)) rfl rfl) ?_
  all_goals refine awpOps_cons (op_mv rfl (Conv.of rfl) rfl) ?_
  all_goals refine awpOps_cons (op_ext rfl rfl rfl) ?_
  all_goals refine awpOps_cons (op_ext rfl rfl rfl) ?_
  all_goals refine awpOps_cons (op_alloc (o := 0) z29 rfl rfl) ?_
  all_goals refine awpOps_cons (op_st ty29 rfl rfl (Conv.of rfl) rfl) ?_
  all_goals refine awpOps_cons (op_as rfl (Conv.of rfl) rfl) ?_
  all_goals refine awpOps_nil ?_
  all_goals refine awp_seq (awp_region (id := 5) ?_)
  all_goals refine awpOps_cons (op_mv rfl (Conv.of rfl) rfl) ?_
  all_goals refine awpOps_cons (op_mv rfl (Conv.of rfl) rfl) ?_
  all_goals refine awpOps_cons (op_call fb17 (.cons rfl (Conv.of rfl) (.cons rfl (Conv.of rfl) (.nil _))) (sPlayR_ct bad evs) (argOk rfl rfl (argOk rfl rfl argOk0)) rfl rfl) ?_
  all_goals refine awpOps_cons (op_mv rfl (Conv.of rfl) rfl) ?_
  all_goals refine awpOps_cons (op_ext rfl rfl rfl) ?_
  all_goals refine awpOps_cons (op_ext rfl rfl rfl) ?_
  all_goals refine awpOps_cons (op_alloc (o := 1) z29 rfl rfl) ?_
  all_goals refine awpOps_cons (op_st ty29 rfl rfl (Conv.of rfl) rfl) ?_
  all_goals refine awpOps_cons (op_as rfl (Conv.of rfl) rfl) ?_
  all_goals refine awpOps_nil ?_
  refine awp_seq (awp_seq_to (s' := mkSt 113 [(3, .v bad), (4, .v evs), (5, .box 0 (IsLens.whole Wrld)), (6, .v (playR bad evs).2), (7, .box 1 (IsLens.whole Wrld)), (8, .v (playR bad evs).2), (45, .v (!(playR bad evs).2))] [(0, .cell (playR bad evs).1), (1, .cell (playR bad evs).1)]) ?_ ?_)
  · all_goals refine awp_region (id := 6) ?_
    all_goals refine awpOps_cons (op_mv rfl (Conv.of rfl) rfl) ?_
    all_goals refine awpOps_cons (op_mv rfl (Conv.of rfl) rfl) ?_
    all_goals refine awpOps_cons (op_bneq ub4 rfl rfl rfl) ?_
    all_goals refine awpOps_cons (op_mv rfl (Conv.of rfl) rfl) ?_
    all_goals refine g_split (t := 36) rfl (fun h => ?_) (fun h => ?_)
    all_goals first | refine awpOps_cons (g_off rfl rfl rfl rfl rfl) ?_ | refine awpOps_cons (g_on rfl rfl rfl (op_ld ty29 rfl rfl rfl)) ?_
    all_goals first | refine awpOps_cons (g_off rfl rfl rfl rfl rfl) ?_ | refine awpOps_cons (g_on rfl rfl rfl (op_ld ty29 rfl rfl rfl)) ?_
    all_goals first | refine awpOps_cons (g_off rfl rfl rfl rfl rfl) ?_ | refine awpOps_cons (g_on rfl rfl rfl (op_call fb18 (.cons rfl (Conv.of rfl) (.cons rfl (Conv.of rfl) (.nil _))) (lwWorld_ct _ _) (argOk rfl rfl (argOk rfl rfl argOk0)) rfl rfl)) ?_
    all_goals first | refine awpOps_cons (g_off rfl rfl rfl rfl rfl) ?_ | refine awpOps_cons (g_on rfl rfl rfl (op_not rfl rfl)) ?_
    all_goals refine awpOps_cons (op_pick rfl rfl rfl rfl) ?_
    all_goals refine awpOps_cons (op_mv rfl (Conv.of rfl) rfl) ?_
    all_goals first | refine g_lit (t := 42) (b := true) rfl ?_ | refine g_split (t := 42) rfl (fun h => ?_) (fun h => ?_)
    all_goals first | refine awpOps_cons (g_off rfl rfl rfl rfl rfl) ?_ | refine awpOps_cons (g_on rfl rfl rfl (op_mv rfl (Conv.of rfl) rfl)) ?_
    all_goals first | refine awpOps_cons (g_off rfl rfl rfl rfl rfl) ?_ | refine awpOps_cons (g_on rfl rfl rfl (op_not rfl rfl)) ?_
    all_goals refine awpOps_cons (op_pick rfl rfl rfl rfl) ?_
    all_goals refine awpOps_nil ?_
    all_goals exact Le.mk rfl (tle rfl (rfl) rfl (tle rfl (rfl) rfl (tlb rfl rfl rfl (tle rfl (rfl) rfl (tlb rfl rfl rfl (tle rfl (rfl) rfl (tle rfl (by first | rfl | (simp_all)) rfl tln))))))) (olk rfl (by exact obOk_cell) (olk rfl (by exact obOk_cell) oln)) noS
  refine awp_cond rfl (fun h => ?_) (fun h => ?_)
  · all_goals refine awp_seq (awp_region (id := 7) ?_)
    all_goals refine awpOps_cons (op_mv rfl (Conv.of rfl) rfl) ?_
    all_goals refine awpOps_cons (op_mv rfl (Conv.of rfl) rfl) ?_
    all_goals refine awpOps_cons (op_beql ub4 rfl rfl rfl) ?_
    all_goals refine awpOps_cons (op_mv rfl (Conv.of rfl) rfl) ?_
    all_goals refine g_split (t := 49) rfl (fun h => ?_) (fun h => ?_)
    all_goals first | refine awpOps_cons (g_off rfl rfl rfl rfl rfl) ?_ | refine awpOps_cons (g_on rfl rfl rfl (op_ld ty29 rfl rfl rfl)) ?_
    all_goals first | refine awpOps_cons (g_off rfl rfl rfl rfl rfl) ?_ | refine awpOps_cons (g_on rfl rfl rfl (op_ld ty29 rfl rfl rfl)) ?_
    all_goals first | refine awpOps_cons (g_off rfl rfl rfl rfl rfl) ?_ | refine awpOps_cons (g_on rfl rfl rfl (op_call fb18 (.cons rfl (Conv.of rfl) (.cons rfl (Conv.of rfl) (.nil _))) (lwWorld_ct _ _) (argOk rfl rfl (argOk rfl rfl argOk0)) rfl rfl)) ?_
    all_goals refine awpOps_cons (op_pick rfl rfl rfl rfl) ?_
    all_goals refine awpOps_cons (op_as rfl (Conv.of rfl) rfl) ?_
    all_goals refine awpOps_nil ?_
    all_goals refine awp_ret ?_
    all_goals refine finP (.v rfl (Conv.of rfl)) rfl ?_
    all_goals simp_all [FV.av]
  obtain ⟨hb, hl, hw⟩ := playR_ok (not_f h)
  rw [hw]
  have hI := Inv.play hb evs
  have hbad := play_bad bad evs
  generalize playF bad evs = w at hI hbad ⊢
  subst hbad
  refine awp_skip ?_
  have hgl := hI.ok.fine.log
  have hlo := hI.ok.log
  have hll := hI.ok.ll
  all_goals refine awp_seq (awp_seq (awp_region (id := 8) ?_))
  all_goals refine awpOps_cons (op_as rfl (Conv.of rfl) rfl) ?_
  all_goals refine awpOps_nil ?_
  refine awp_block ?_
  refine awp_loop' (fun n_ s => ∃ (k : Nat), ∃ (hn : n_ + k = w.log.length), s = mkSt 113 [(3, .v w.bad), (5, .box 0 (IsLens.whole Wrld)), (9, .v (k : Int))] [(0, .cell w)]) (w.log.length) ⟨0, by omega, rfl⟩ (Le.mk rfl (tle rfl (rfl) rfl (tlb rfl rfl rfl (tle rfl (rfl) rfl tln))) (olk rfl (by exact obOk_cell) oln) noS) ?_
  rintro n_ s ⟨k, hn, rfl⟩
  all_goals refine awp_seq (awp_seq (awp_region (id := 9) ?_))
  all_goals refine awpOps_cons (op_mv rfl (Conv.of rfl) rfl) ?_
  all_goals refine awpOps_cons (op_fab f29_2 rfl rfl) ?_
  all_goals refine awpOps_cons (op_ld ty27 rfl rfl rfl) ?_
  all_goals refine awpOps_cons (op_len sl27 rfl rfl) ?_
  all_goals refine awpOps_cons (op_lss rfl rfl rfl) ?_
  all_goals refine awpOps_nil ?_
  refine awp_cond rfl (fun h => ?_) (fun h => ?_)
  · have hlt : k < w.log.length := by simpa using h
    have hx : w.log[k]? = some w.log[k] := List.getElem?_eq_getElem hlt
    generalize w.log[k] = v at hx
    have hmem := List.mem_of_getElem? hx
    have hvo := hgl.ok v hmem
    have hpos := voteOk_pos hvo
    have hvl := chainOk_len (voteOk_chain hvo)
    have hc : v.chain[v.chain.length - 1]? = some (v.chain[v.chain.length - 1]'(by omega)) := List.getElem?_eq_getElem (by omega)
    have hc' : v.chain[((v.chain.length : Int) - 1).toNat]? = some (v.chain[v.chain.length - 1]'(by omega)) := by
      rw [show ((v.chain.length : Int) - 1).toNat = v.chain.length - 1 by omega]; exact hc
    have hep : (v.chain[v.chain.length - 1]'(by omega)).epoch = lastEp v.chain := (lastEp_get hc).symm
    refine awp_skip ?_
    refine awp_seq (awp_block ?_)
    all_goals refine awp_seq (awp_region (id := 11) ?_)
    all_goals refine awpOps_cons (op_fab f29_2 rfl rfl) ?_
    all_goals refine awpOps_cons (op_ld ty27 rfl rfl rfl) ?_
    all_goals refine awpOps_cons (op_mv rfl (Conv.of rfl) rfl) ?_
    all_goals refine awpOps_cons (op_ix sl27 rfl rfl rfl (by omega) hx) ?_
    all_goals refine awpOps_cons (op_far f35_1 rfl rfl) ?_
    all_goals refine awpOps_cons (op_ldr ty33 rfl rfl) ?_
    all_goals refine awpOps_cons (op_as rfl (Conv.of rfl) rfl) ?_
    all_goals refine awpOps_nil ?_
    all_goals refine awp_seq (awp_seq (awp_region (id := 12) ?_))
    all_goals refine awpOps_cons (op_fab f29_2 rfl rfl) ?_
    all_goals refine awpOps_cons (op_ld ty27 rfl rfl rfl) ?_
    all_goals refine awpOps_cons (op_mv rfl (Conv.of rfl) rfl) ?_
    all_goals refine awpOps_cons (op_call fb25 (.cons rfl (Conv.of rfl) (.cons rfl (Conv.of rfl) (.nil _))) (votesFor_ct _ _ hlo) (argOk rfl rfl (argOk rfl rfl argOk0)) rfl rfl) ?_
    all_goals refine awpOps_cons (op_len sl52 rfl rfl) ?_
    all_goals refine awpOps_cons (op_lss rfl rfl rfl) ?_
    all_goals refine awpOps_nil ?_
    refine awp_cond rfl (fun h2 => ?_) (fun h2 => ?_)
    · refine awp_exit ?_
      repeat refine ex_seq ?_
      refine ex_block ?_
      all_goals refine awp_region (id := 10) ?_
      all_goals refine awpOps_cons (op_mv rfl (Conv.of rfl) rfl) ?_
      all_goals refine awpOps_cons (op_add rfl rfl rfl (by omega)) ?_
      all_goals refine awpOps_cons (op_as rfl (Conv.of rfl) rfl) ?_
      all_goals refine awpOps_nil ?_
      repeat first | refine nx_seq ?_ | refine nx_block ?_
      exact ⟨n_ - 1, _, by omega, ⟨k + 1, by omega, rfl⟩, Le.mk rfl (tle rfl (rfl) rfl (tlb rfl rfl rfl (tle rfl (rfl) rfl tln))) (olk rfl (by exact obOk_cell) oln) noS⟩
    · have hq1 : 3 ≤ (voters w.log v.chain).length := by have := of_decide_eq_false h2; simp at this; omega
      refine awp_skip ?_
      all_goals refine awp_seq (awp_region (id := 13) ?_)
      all_goals refine awpOps_cons (op_as rfl (Conv.of rfl) rfl) ?_
      all_goals refine awpOps_nil ?_
      refine awp_toB (s' := mkSt 113 [(3, .v w.bad), (5, .box 0 (IsLens.whole Wrld)), (9, .v (k : Int))] [(0, .cell w)]) ?_ ?_
      · refine awp_block ?_
        refine awp_loop' (fun n_ s => ∃ (j : Nat), ∃ (hj : n_ + j = k), s = mkSt 113 [(3, .v w.bad), (5, .box 0 (IsLens.whole Wrld)), (9, .v (k : Int)), (10, .v v.chain), (11, .v (j : Int))] [(0, .cell w)]) (k) ⟨0, by omega, rfl⟩ (Le.mk rfl (tle rfl (rfl) rfl (tlb rfl rfl rfl (tle rfl (rfl) rfl (tle rfl (rfl) rfl (tle rfl (rfl) rfl tln))))) (olk rfl (by exact obOk_cell) oln) noS) ?_
        rintro n_ s ⟨j, hj, rfl⟩
        all_goals refine awp_seq (awp_seq (awp_region (id := 14) ?_))
        all_goals refine awpOps_cons (op_mv rfl (Conv.of rfl) rfl) ?_
        all_goals refine awpOps_cons (op_mv rfl (Conv.of rfl) rfl) ?_
        all_goals refine awpOps_cons (op_lss rfl rfl rfl) ?_
        all_goals refine awpOps_nil ?_
        refine awp_cond rfl (fun h3 => ?_) (fun h3 => ?_)
        · have hj2 : j < k := by simpa using h3
          have hy : w.log[j]? = some (w.log[j]'(by omega)) := List.getElem?_eq_getElem (by omega)
          generalize w.log[j]'(by omega) = u at hy
          have huo := hgl.ok u (List.mem_of_getElem? hy)
          have hup := voteOk_pos huo
          have hul := chainOk_len (voteOk_chain huo)
          have hd : u.chain[u.chain.length - 1]? = some (u.chain[u.chain.length - 1]'(by omega)) := List.getElem?_eq_getElem (by omega)
          have hd' : u.chain[((u.chain.length : Int) - 1).toNat]? = some (u.chain[u.chain.length - 1]'(by omega)) := by
            rw [show ((u.chain.length : Int) - 1).toNat = u.chain.length - 1 by omega]; exact hd
          have hed : (u.chain[u.chain.length - 1]'(by omega)).epoch = lastEp u.chain := (lastEp_get hd).symm
          have hone : lastEp v.chain = lastEp u.chain → ¬ v.chain = u.chain → ((voters w.log u.chain).length : Int) < 3 := fun e1 e2 => by
            rcases Nat.lt_or_ge (voters w.log u.chain).length 3 with hh | hh
            · omega
            · exact absurd (hI.safe.epoch hq1 hh e1) e2
          clear h2 hq1 h
          refine awp_skip ?_
          refine awp_seq (awp_block ?_)
          all_goals refine awp_seq (awp_region (id := 16) ?_)
          all_goals refine awpOps_cons (op_fab f29_2 rfl rfl) ?_
          all_goals refine awpOps_cons (op_ld ty27 rfl rfl rfl) ?_
          all_goals refine awpOps_cons (op_mv rfl (Conv.of rfl) rfl) ?_
          all_goals refine awpOps_cons (op_ix sl27 rfl rfl rfl (by omega) hy) ?_
          all_goals refine awpOps_cons (op_far f35_1 rfl rfl) ?_
          all_goals refine awpOps_cons (op_ldr ty33 rfl rfl) ?_
          all_goals refine awpOps_cons (op_as rfl (Conv.of rfl) rfl) ?_
          all_goals refine awpOps_nil ?_
          refine awp_seq_to (s' := mkSt 113 [(3, .v w.bad), (5, .box 0 (IsLens.whole Wrld)), (9, .v (k : Int)), (10, .v v.chain), (11, .v (j : Int)), (112, .v false)] [(0, .cell w)]) ?_ ?_
          · all_goals refine dr_start (id := 17) ?_
            all_goals refine dr_cons (op_mv rfl (Conv.of rfl) rfl) ?_
            all_goals refine dr_cons (op_mv rfl (Conv.of rfl) rfl) ?_
            all_goals refine dr_cons (op_len sl33 rfl rfl) ?_
            all_goals refine dr_cons (op_sub rfl rfl rfl (by omega)) ?_
            all_goals refine dr_cons (op_ix sl33 rfl rfl rfl (by omega) hc') ?_
            all_goals refine dr_cons (op_far f40_0 rfl rfl) ?_
            all_goals refine dr_cons (op_ldr ty3 rfl rfl) ?_
            all_goals refine dr_cons (op_mv rfl (Conv.of rfl) rfl) ?_
            all_goals refine dr_cons (op_mv rfl (Conv.of rfl) rfl) ?_
            all_goals refine dr_cons (op_len sl33 rfl rfl) ?_
            all_goals refine dr_cons (op_sub rfl rfl rfl (by omega)) ?_
            all_goals refine dr_cons (op_ix sl33 rfl rfl rfl (by omega) hd') ?_
            all_goals refine dr_cons (op_far f40_0 rfl rfl) ?_
            all_goals refine dr_cons (op_ldr ty3 rfl rfl) ?_
            all_goals refine dr_cons (op_eql rfl rfl rfl) ?_
            all_goals refine dr_cons (op_mv rfl (Conv.of rfl) rfl) ?_
            all_goals refine dr_split (t := 99) rfl (fun h => ?_) (fun h => ?_)
            all_goals first | refine dr_cons (g_off rfl rfl rfl rfl rfl) ?_ | refine dr_cons (g_on rfl rfl rfl (op_mv rfl (Conv.of rfl) rfl)) ?_
            all_goals first | refine dr_cons (g_off rfl rfl rfl rfl rfl) ?_ | refine dr_cons (g_on rfl rfl rfl (op_mv rfl (Conv.of rfl) rfl)) ?_
            all_goals first | refine dr_cons (g_off rfl rfl rfl rfl rfl) ?_ | refine dr_cons (g_on rfl rfl rfl (op_call fb26 (.cons rfl (Conv.of rfl) (.cons rfl (Conv.of rfl) (.nil _))) (lwSame_ct _ _) (argOk rfl rfl (argOk rfl rfl argOk0)) rfl rfl)) ?_
            all_goals first | refine dr_cons (g_off rfl rfl rfl rfl rfl) ?_ | refine dr_cons (g_on rfl rfl rfl (op_not rfl rfl)) ?_
            all_goals refine dr_cons (op_pick rfl rfl rfl rfl) ?_
            all_goals refine dr_cons (op_mv rfl (Conv.of rfl) rfl) ?_
            all_goals first | refine dr_lit (t := 105) (b := false) rfl ?_ | refine dr_split (t := 105) rfl (fun h => ?_) (fun h => ?_)
            all_goals first | refine dr_cons (g_off rfl rfl rfl rfl rfl) ?_ | refine dr_cons (g_on rfl rfl rfl (op_fab f29_2 rfl rfl)) ?_
            all_goals first | refine dr_cons (g_off rfl rfl rfl rfl rfl) ?_ | refine dr_cons (g_on rfl rfl rfl (op_ld ty27 rfl rfl rfl)) ?_
            all_goals first | refine dr_cons (g_off rfl rfl rfl rfl rfl) ?_ | refine dr_cons (g_on rfl rfl rfl (op_mv rfl (Conv.of rfl) rfl)) ?_
            all_goals first | refine dr_cons (g_off rfl rfl rfl rfl rfl) ?_ | refine dr_cons (g_on rfl rfl rfl (op_call fb25 (.cons rfl (Conv.of rfl) (.cons rfl (Conv.of rfl) (.nil _))) (votesFor_ct _ _ hlo) (argOk rfl rfl (argOk rfl rfl argOk0)) rfl rfl)) ?_
            all_goals first | refine dr_cons (g_off rfl rfl rfl rfl rfl) ?_ | refine dr_cons (g_on rfl rfl rfl (op_len sl52 rfl rfl)) ?_
            all_goals first | refine dr_cons (g_off rfl rfl rfl rfl rfl) ?_ | refine dr_cons (g_on rfl rfl rfl (op_geq rfl rfl rfl)) ?_
            all_goals refine dr_cons (op_pick rfl rfl rfl rfl) ?_
            all_goals refine dr_nil mixed rfl ?_
            all_goals exact Le.mk rfl (tle rfl (rfl) rfl (tlb rfl rfl rfl (tle rfl (rfl) rfl (tle rfl (rfl) rfl (tle rfl (rfl) rfl (tle rfl (by first | rfl | (show AV.v _ = AV.v _; simp_all)) rfl tln)))))) (olk rfl (by exact obOk_cell) oln) noS
          refine awp_cond rfl (fun h4 => absurd h4 (by decide)) (fun h4 => ?_)
          refine awp_skip ?_
          all_goals refine awp_region (id := 15) ?_
          all_goals refine awpOps_cons (op_mv rfl (Conv.of rfl) rfl) ?_
          all_goals refine awpOps_cons (op_add rfl rfl rfl (by omega)) ?_
          all_goals refine awpOps_cons (op_as rfl (Conv.of rfl) rfl) ?_
          all_goals refine awpOps_nil ?_
          repeat first | refine nx_seq ?_ | refine nx_block ?_
          exact ⟨n_ - 1, _, by omega, ⟨j + 1, by omega, rfl⟩, Le.mk rfl (tle rfl (rfl) rfl (tlb rfl rfl rfl (tle rfl (rfl) rfl (tle rfl (rfl) rfl (tle rfl (rfl) rfl tln))))) (olk rfl (by exact obOk_cell) oln) noS⟩
        · refine awp_exit ?_
          repeat refine ex_seq ?_
          refine ex_block ?_
          all_goals exact Le.mk rfl (tle rfl (rfl) rfl (tlb rfl rfl rfl (tle rfl (rfl) rfl tln))) (olk rfl (by exact obOk_cell) oln) noS
      · all_goals refine awp_region (id := 10) ?_
        all_goals refine awpOps_cons (op_mv rfl (Conv.of rfl) rfl) ?_
        all_goals refine awpOps_cons (op_add rfl rfl rfl (by omega)) ?_
        all_goals refine awpOps_cons (op_as rfl (Conv.of rfl) rfl) ?_
        all_goals refine awpOps_nil ?_
        repeat first | refine nx_seq ?_ | refine nx_block ?_
        exact ⟨n_ - 1, _, by omega, ⟨k + 1, by omega, rfl⟩, Le.mk rfl (tle rfl (rfl) rfl (tlb rfl rfl rfl (tle rfl (rfl) rfl tln))) (olk rfl (by exact obOk_cell) oln) noS⟩
  · refine awp_exit ?_
    repeat refine ex_seq ?_
    refine ex_block ?_
    all_goals refine awp_seq (awp_region (id := 19) ?_)
    all_goals refine awpOps_cons (op_as rfl (Conv.of rfl) rfl) ?_
    all_goals refine awpOps_nil ?_
    refine awp_ret ?_
    repeat first | refine rt_seq ?_ | refine rt_block ?_
    exact finP (.v rfl (Conv.of rfl)) rfl rfl
end Go.Proofs.Ytlepfdmolankeaa

/- The law FnWorldSure returns true at every input, and leaves its arguments as they were. No condition. -/
set_option linter.unusedVariables false
namespace Go.Proofs.Ytlepfdmolankeaa.fnWorldSure
open Go Go.ChangeShapes Go.WideShapes Go.ChangeAt Go.RowKit
theorem own : ownKnob Try.prog.godebug = none := by kernel_rfl
theorem laidOut : laidOutB Try.prog = true := by kernel_rfl
set_option maxRecDepth 100000 in
theorem lifted (os : Os) (started : os.Started) (H : Type) (enc : TypeId × Value → H) :
    ReturnsInHanded {} Try.checked os 9 .any (Rows.fnWorldSureSpec.pre6 enc Try.prog Try.f9 Rows.fnWorldSureRow.domain false) (Rows.fnWorldSureSpec.post enc Try.prog Try.f9 false true false false) := by
  refine returnsInHanded_of_change_sized (C := Try.checked) own started (by kernel_rfl) Try.func9
    (ChangeSpec.witness6 (enc := enc) (C := Try.checked) false ⟨#[], #[.slice none 0 0], []⟩ 8 (by kernel_rfl) (by kernel_rfl) (by kernel_rfl) (by kernel_rfl)) ?_
  intro W base args ds gs before hval0 hW hcnd hsz0 _
  have hsz : (DataW.weightsEach Try.prog (Try.f9.params.toList ++ Rows.fnWorldSureSpec.plain.varTypes Try.prog) (ds ++ gs)).all (· ≤ reachBytes) = true := hsz0
  have hval : ∀ (j : Nat) t v, Try.f9.params[j]? = some t → args[j]? = some v → Value.okWide Try.prog W .any base t v := hval0
  have hW' := hW
  obtain ⟨p, q, hA0, hV, rfl, hfz, hnd⟩ := hW
  have hA : DataW.TrodAll enc Try.prog W 0 (fun _ => true) true Try.f9.params.toList args.toList ds p := hA0
  rw [Try.params9] at hA hval hsz
  obtain ⟨v0, vs0, d0, ds0, p0, q0, hargs, rfl, rfl, h0, r0⟩ := trodAll_cons hA
  obtain ⟨rfl, rfl, rfl⟩ := trodAll_nil r0
  obtain rfl : args = #[v0] := by cases args; simp_all
  obtain ⟨rfl, rfl⟩ := trodVars_none hV
  obtain ⟨a0, len0, cap0, rfl⟩ := okWide_slice Try.underlying22 (hval 0 22 v0 rfl rfl)
  have k0 := h0
  have lt0 : ∀ x ∈ p0, x.block < W.heap.size := by obtain ⟨m, hm⟩ := k0; exact DataW.trod_lt m _ _ _ hm
  obtain ⟨z0, w0⟩ := Go.Wt.rowOf (fun _ => rfl) Try.underlying22 Try.underlying5 (by kernel_rfl) h0
  have y0 := Go.Wt.lenOf hsz (j := 0) (t := 22) rfl rfl Try.underlying22 Try.underlying5 (by kernel_rfl) (by kernel_rfl) h0
  clear hA0 hval0 hsz0 hsz
  refine (Go.Wt.row1 FnWorldSure_ct W w0 y0).mono fun e W' ⟨he, bel⟩ => ?_
  subst he
  exact ⟨_, rfl, _, _, _, [], _, [], hW', trodAll_mk1 (shut_bool Try.underlying4 _), (trodAll_cons_mk (Below.trod laidOut (by kernel_rfl) (of_decide_eq_true (by kernel_rfl)) k0 bel lt0) trodAll_mk0), rfl, bel.frame _, fun h => by cases h⟩
theorem over : Rows.fnWorldSureRow.holds Try.pinned (OpenSpec.ofChange Rows.fnWorldSureSpec) :=
  OpenClaim.holds_of_wide 9 Try.f9 rfl rfl rfl rfl rfl rfl rfl ⟨rfl, rfl, rfl, rfl, rfl⟩ rfl rfl rfl rfl rfl (by kernel_rfl) Try.func9 (by kernel_rfl)
    (of_decide_eq_true (by kernel_rfl)) (by unfold Func.isWrapper; first | (rw [if_pos (by decide +kernel)]; kernel_rfl) | (rw [if_neg (by decide +kernel)]; exact ⟨rfl, rfl⟩))
    (fun os started H enc _ => lifted os started H enc)
end Go.Proofs.Ytlepfdmolankeaa.fnWorldSure
namespace Go.Proofs.Ytlepfdmolankeaa
theorem fnWorldSure_holds : Rows.FnWorldSureSaid := fnWorldSure.over
#print axioms fnWorldSure_holds
end Go.Proofs.Ytlepfdmolankeaa
