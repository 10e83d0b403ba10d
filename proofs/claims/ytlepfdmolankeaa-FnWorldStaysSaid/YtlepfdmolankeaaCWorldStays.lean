/- The law FnWorldStays returns true at every input, and leaves its arguments as they were. No condition. -/
import Derived.Test.YtlepfdmolankeaaM5
import Derived.Test.YtlepfdmolankeaaRows
import Derived.WalkKit
import Derived.ProofKit
import Derived.OpenShut
import Derived.ShutString
import Derived.ChangeOld
import Derived.Below
import Derived.SizedLaws
import Derived.KernelRfl
/- A law: what is final stays so. -/
set_option linter.unusedVariables false
set_option linter.unusedSimpArgs false
namespace Go.Proofs.Ytlepfdmolankeaa
open Go Go.Wt
set_option maxHeartbeats 2000000 in
theorem FnWorldStays_ct (code more : List UInt8) : CtP Try.prog 13 [.v code, .v more] (.v true) := by
  refine Ct.intro Try.func13 rfl rfl ?_
  refine awp_bigL 1 rfl (fun hmore => ?_)
  all_goals refine awp_seq (awp_region (id := 0) ?_)
  all_goals refine awpOps_cons (op_as rfl (Conv.of rfl) rfl) ?_
  all_goals refine awpOps_nil ?_
  refine awp_seq (awp_seq_to (s' := mkSt 127 [(0, .v code), (1, .v more), (23, .v (decide ((code.length : Int) > 1048576) || decide ((more.length : Int) > 1048576)))] []) ?_ ?_)
  · all_goals refine awp_region (id := 1) ?_
    all_goals refine awpOps_cons (op_mv rfl (Conv.of rfl) rfl) ?_
    all_goals refine awpOps_cons (op_len sl22 rfl rfl) ?_
    all_goals refine awpOps_cons (op_gtr rfl rfl rfl) ?_
    all_goals refine awpOps_cons (op_mv rfl (Conv.of rfl) rfl) ?_
    all_goals refine g_split (t := 19) rfl (fun h => ?_) (fun h => ?_)
    all_goals first | refine awpOps_cons (g_off rfl rfl rfl rfl rfl) ?_ | refine awpOps_cons (g_on rfl rfl rfl (op_mv rfl (Conv.of rfl) rfl)) ?_
    all_goals first | refine awpOps_cons (g_off rfl rfl rfl rfl rfl) ?_ | refine awpOps_cons (g_on rfl rfl rfl (op_len sl22 rfl rfl)) ?_
    all_goals first | refine awpOps_cons (g_off rfl rfl rfl rfl rfl) ?_ | refine awpOps_cons (g_on rfl rfl rfl (op_gtr rfl rfl rfl)) ?_
    all_goals refine awpOps_cons (op_pick rfl rfl rfl rfl) ?_
    all_goals refine awpOps_nil ?_
    all_goals exact Le.mk rfl (tle rfl (rfl) rfl (tle rfl (rfl) rfl (tle rfl (by (simp_all; try omega)) rfl tln))) oln noS
  refine awp_cond rfl (fun h => ?_) (fun h => ?_)
  · all_goals refine awp_seq (awp_region (id := 2) ?_)
    all_goals refine awpOps_cons (op_as rfl (Conv.of rfl) rfl) ?_
    all_goals refine awpOps_nil ?_
    refine awp_ret ?_
    repeat first | refine rt_seq ?_ | refine rt_block ?_
    exact finP (.v rfl (Conv.of rfl)) rfl rfl
  refine awp_skip ?_
  all_goals refine awp_seq (awp_region (id := 3) ?_)
  all_goals refine awpOps_cons (op_mv rfl (Conv.of rfl) rfl) ?_
  refine awpOps_callE (ι := Int × List Evt) [] (fun i => .tup [.v i.1, .v i.2]) (fun _ => []) (fun i => i.2.length ≤ 100) rfl fb15 (.cons rfl (Conv.of rfl) (.nil _)) (drawPlay_ct code) (fun r h' ⟨bad, evs, e1, e2, e3⟩ => ⟨(bad, evs), e1, e2, e3⟩) ols0 oks0 (argOk' rfl rfl argO0) rfl (fun _ => rfl) (fun _ => oks0) (fun _ o ho => by cases ho) ?_
  rintro ⟨bad, evs⟩ he
  simp only at he ⊢
  all_goals refine awpOps_cons (op_mv rfl (Conv.of rfl) rfl) ?_
  all_goals refine awpOps_cons (op_ext rfl rfl rfl) ?_
  all_goals refine awpOps_cons (op_ext rfl rfl rfl) ?_
  all_goals refine awpOps_cons (op_as rfl (Conv.of rfl) rfl) ?_
  all_goals refine awpOps_cons (op_as rfl (Conv.of rfl) rfl) ?_
  all_goals refine awpOps_nil ?_
  all_goals refine awp_seq (awp_region (id := 4) ?_)
  all_goals refine awpOps_cons (op_mv rfl (Conv.of rfl) rfl) ?_
  all_goals refine awpOps_cons (op_mv rfl (Conv.of rfl) rfl) ?_
  all_goals refine awpOps_cons (op_call fb16 (.cons rfl (Conv.of rfl) (.cons rfl (Conv.of rfl) (.nil _))) (iPlay_ct bad evs) (argOk rfl rfl (argOk rfl rfl argOk0)) rfl rfl) ?_
  all_goals refine awpOps_cons (op_mv rfl (Conv.of rfl) rfl) ?_
  all_goals refine awpOps_cons (op_ext rfl rfl rfl) ?_
  all_goals refine awpOps_cons (op_ext rfl rfl rfl) ?_
  all_goals refine awpOps_cons (op_alloc (o := 0) z29 rfl rfl) ?_
  all_goals refine awpOps_cons (op_st ty29 rfl rfl (Conv.of rfl) rfl) ?_
  all_goals refine awpOps_cons (op_as rfl (Conv.of rfl) rfl) ?_
  all_goals refine awpOps_nil ?_
  all_goals refine awp_seq (awp_region (id := 5) ?_)
  all_goals refine awpOps_cons (op_mv rfl (Conv.of rfl) rfl) ?_
  all_goals refine awpOps_cons (op_mv rfl (Conv.of rfl) rfl) ?_
  all_goals refine awpOps_cons (op_call fb17 (.cons rfl (Conv.of rfl) (.cons rfl (Conv.of rfl) (.nil _))) (sPlayR_ct bad evs) (argOk rfl rfl (argOk rfl rfl argOk0)) rfl rfl) ?_
  all_goals refine awpOps_cons (op_mv rfl (Conv.of rfl) rfl) ?_
  all_goals refine awpOps_cons (op_ext rfl rfl rfl) ?_
  all_goals refine awpOps_cons (op_ext rfl rfl rfl) ?_
  all_goals refine awpOps_cons (op_alloc (o := 1) z29 rfl rfl) ?_
  all_goals refine awpOps_cons (op_st ty29 rfl rfl (Conv.of rfl) rfl) ?_
  all_goals refine awpOps_cons (op_as rfl (Conv.of rfl) rfl) ?_
  all_goals refine awpOps_nil ?_
  refine awp_seq (awp_seq_to (s' := mkSt 127 [(1, .v more), (5, .v bad), (6, .v evs), (7, .box 0 (IsLens.whole Wrld)), (8, .v (playR bad evs).2), (9, .box 1 (IsLens.whole Wrld)), (10, .v (playR bad evs).2), (53, .v (!(playR bad evs).2))] [(0, .cell (playR bad evs).1), (1, .cell (playR bad evs).1)]) ?_ ?_)
  · all_goals refine awp_region (id := 6) ?_
    all_goals refine awpOps_cons (op_mv rfl (Conv.of rfl) rfl) ?_
    all_goals refine awpOps_cons (op_mv rfl (Conv.of rfl) rfl) ?_
    all_goals refine awpOps_cons (op_bneq ub4 rfl rfl rfl) ?_
    all_goals refine awpOps_cons (op_mv rfl (Conv.of rfl) rfl) ?_
    all_goals refine g_split (t := 44) rfl (fun h => ?_) (fun h => ?_)
    all_goals first | refine awpOps_cons (g_off rfl rfl rfl rfl rfl) ?_ | refine awpOps_cons (g_on rfl rfl rfl (op_ld ty29 rfl rfl rfl)) ?_
    all_goals first | refine awpOps_cons (g_off rfl rfl rfl rfl rfl) ?_ | refine awpOps_cons (g_on rfl rfl rfl (op_ld ty29 rfl rfl rfl)) ?_
    all_goals first | refine awpOps_cons (g_off rfl rfl rfl rfl rfl) ?_ | refine awpOps_cons (g_on rfl rfl rfl (op_call fb18 (.cons rfl (Conv.of rfl) (.cons rfl (Conv.of rfl) (.nil _))) (lwWorld_ct _ _) (argOk rfl rfl (argOk rfl rfl argOk0)) rfl rfl)) ?_
    all_goals first | refine awpOps_cons (g_off rfl rfl rfl rfl rfl) ?_ | refine awpOps_cons (g_on rfl rfl rfl (op_not rfl rfl)) ?_
    all_goals refine awpOps_cons (op_pick rfl rfl rfl rfl) ?_
    all_goals refine awpOps_cons (op_mv rfl (Conv.of rfl) rfl) ?_
    all_goals first | refine g_lit (t := 50) (b := true) rfl ?_ | refine g_split (t := 50) rfl (fun h => ?_) (fun h => ?_)
    all_goals first | refine awpOps_cons (g_off rfl rfl rfl rfl rfl) ?_ | refine awpOps_cons (g_on rfl rfl rfl (op_mv rfl (Conv.of rfl) rfl)) ?_
    all_goals first | refine awpOps_cons (g_off rfl rfl rfl rfl rfl) ?_ | refine awpOps_cons (g_on rfl rfl rfl (op_not rfl rfl)) ?_
    all_goals refine awpOps_cons (op_pick rfl rfl rfl rfl) ?_
    all_goals refine awpOps_nil ?_
    all_goals exact Le.mk rfl (tle rfl (rfl) rfl (tle rfl (rfl) rfl (tle rfl (rfl) rfl (tlb rfl rfl rfl (tle rfl (rfl) rfl (tlb rfl rfl rfl (tle rfl (rfl) rfl (tle rfl (by first | rfl | (simp_all)) rfl tln)))))))) (olk rfl (by exact obOk_cell) (olk rfl (by exact obOk_cell) oln)) noS
  refine awp_cond rfl (fun h => ?_) (fun h => ?_)
  · all_goals refine awp_seq (awp_region (id := 7) ?_)
    all_goals refine awpOps_cons (op_mv rfl (Conv.of rfl) rfl) ?_
    all_goals refine awpOps_cons (op_mv rfl (Conv.of rfl) rfl) ?_
    all_goals refine awpOps_cons (op_beql ub4 rfl rfl rfl) ?_
    all_goals refine awpOps_cons (op_mv rfl (Conv.of rfl) rfl) ?_
    all_goals refine g_split (t := 57) rfl (fun h => ?_) (fun h => ?_)
    all_goals first | refine awpOps_cons (g_off rfl rfl rfl rfl rfl) ?_ | refine awpOps_cons (g_on rfl rfl rfl (op_ld ty29 rfl rfl rfl)) ?_
    all_goals first | refine awpOps_cons (g_off rfl rfl rfl rfl rfl) ?_ | refine awpOps_cons (g_on rfl rfl rfl (op_ld ty29 rfl rfl rfl)) ?_
    all_goals first | refine awpOps_cons (g_off rfl rfl rfl rfl rfl) ?_ | refine awpOps_cons (g_on rfl rfl rfl (op_call fb18 (.cons rfl (Conv.of rfl) (.cons rfl (Conv.of rfl) (.nil _))) (lwWorld_ct _ _) (argOk rfl rfl (argOk rfl rfl argOk0)) rfl rfl)) ?_
    all_goals refine awpOps_cons (op_pick rfl rfl rfl rfl) ?_
    all_goals refine awpOps_cons (op_as rfl (Conv.of rfl) rfl) ?_
    all_goals refine awpOps_nil ?_
    all_goals refine awp_ret ?_
    all_goals refine finP (.v rfl (Conv.of rfl)) rfl ?_
    all_goals simp_all [FV.av]
  obtain ⟨hb, hl, hw⟩ := playR_ok (not_f h)
  rw [hw]
  have hI := Inv.play hb evs
  have hbad := play_bad bad evs
  refine awp_skip ?_
  have hcut := tmod_bd (show (0 : Int) ≤ (more.length : Int) by omega) (show (0 : Int) < (evs.length : Int) + 1 by omega)
  generalize hcc : (more.length : Int).tmod ((evs.length : Int) + 1) = cut at hcut
  have hpr : playR bad (evs.take cut.toNat) = (playF bad (evs.take cut.toNat), true) := by
    unfold playR; rw [if_pos (by simp [hb]; omega)]
  have hct := iPlay_ct bad (evs.take cut.toNat)
  rw [hpr] at hct
  simp only at hct
  have hI2 := Inv.play hb (evs.take cut.toNat)
  have hb2 := play_bad bad (evs.take cut.toNat)
  have hG := Grw.play bad evs cut.toNat
  generalize playF bad evs = w at hI hbad hG ⊢
  generalize playF bad (evs.take cut.toNat) = x at hct hI2 hb2 hG
  have h4 := hI.ok.four
  have h42 := hI2.ok.four
  all_goals refine awp_seq (awp_region (id := 8) ?_)
  all_goals refine awpOps_cons (op_mv rfl (Conv.of rfl) rfl) ?_
  all_goals refine awpOps_cons (op_mv rfl (Conv.of rfl) rfl) ?_
  all_goals refine awpOps_cons (op_mv rfl (Conv.of rfl) rfl) ?_
  all_goals refine awpOps_cons (op_len sl22 rfl rfl) ?_
  all_goals refine awpOps_cons (op_mv rfl (Conv.of rfl) rfl) ?_
  all_goals refine awpOps_cons (op_len sl23 rfl rfl) ?_
  all_goals refine awpOps_cons (op_add rfl rfl rfl (by omega)) ?_
  all_goals refine awpOps_cons (op_rem rfl rfl rfl (by omega)) ?_
  all_goals refine awpOps_cons (op_slh sl23 rfl rfl rfl (by rw [hcc]; omega)) ?_
  all_goals refine awpOps_cons (op_call fb16 (.cons rfl (Conv.of rfl) (.cons rfl (Conv.of rfl) (.nil _))) (by rw [hcc]; exact hct) (argOk rfl rfl (argOk rfl rfl argOk0)) rfl rfl) ?_
  all_goals refine awpOps_cons (op_mv rfl (Conv.of rfl) rfl) ?_
  all_goals refine awpOps_cons (op_ext rfl rfl rfl) ?_
  all_goals refine awpOps_cons (op_ext rfl rfl rfl) ?_
  all_goals refine awpOps_cons (op_alloc (o := 3) z29 rfl rfl) ?_
  all_goals refine awpOps_cons (op_st ty29 rfl rfl (Conv.of rfl) rfl) ?_
  all_goals refine awpOps_cons (op_as rfl (Conv.of rfl) rfl) ?_
  all_goals refine awpOps_nil ?_
  all_goals refine awp_seq (awp_seq (awp_region (id := 9) ?_))
  all_goals refine awpOps_cons (op_as rfl (Conv.of rfl) rfl) ?_
  all_goals refine awpOps_nil ?_
  refine awp_to (s' := mkSt 127 [(12, .v true)] []) ?_ ?_
  · refine awp_block ?_
    refine awp_loop' (fun n_ s => ∃ (i : Nat), ∃ (hi : n_ + i = 4), s = mkSt 127 [(5, .v bad), (7, .box 0 (IsLens.whole Wrld)), (11, .box 3 (IsLens.whole Wrld)), (12, .v true), (13, .v (i : Int))] [(0, .cell w), (3, .cell x)]) (4) ⟨0, by omega, rfl⟩ (Le.mk rfl (tle rfl (rfl) rfl (tlb rfl rfl rfl (tlb rfl rfl rfl (tle rfl (rfl) rfl (tle rfl (rfl) rfl tln))))) (olk rfl (by exact obOk_cell) (olk rfl (by exact obOk_cell) oln)) noS) ?_
    rintro n_ s ⟨i, hi, rfl⟩
    all_goals refine awp_seq (awp_seq (awp_region (id := 10) ?_))
    all_goals refine awpOps_cons (op_mv rfl (Conv.of rfl) rfl) ?_
    all_goals refine awpOps_cons (op_fab f29_1 rfl rfl) ?_
    all_goals refine awpOps_cons (op_ld ty26 rfl rfl rfl) ?_
    all_goals refine awpOps_cons (op_len sl26 rfl rfl) ?_
    all_goals refine awpOps_cons (op_lss rfl rfl rfl) ?_
    all_goals refine awpOps_nil ?_
    refine awp_cond rfl (fun h => ?_) (fun h => ?_)
    · have hi2 : i < x.nodes.length := by simpa using h
      have hx : x.nodes[i]? = some x.nodes[i] := List.getElem?_eq_getElem hi2
      generalize x.nodes[i] = a at hx
      obtain ⟨b, hy, hab⟩ := hG.seen i a hx
      have hsa := nodeOk_seen (hI2.ok.nodes a (List.mem_of_getElem? hx))
      have hsb := nodeOk_seen (hI.ok.nodes b (List.mem_of_getElem? hy))
      have hNa := hI2.nodes i a hx
      have hNb := hI.nodes i b hy
      refine awp_skip ?_
      refine awp_seq (awp_block ?_)
      all_goals refine awp_seq (awp_seq (awp_region (id := 12) ?_))
      all_goals refine awpOps_cons (op_mv rfl (Conv.of rfl) rfl) ?_
      all_goals refine awpOps_cons (op_add rfl rfl rfl (by omega)) ?_
      all_goals refine awpOps_cons (op_mv rfl (Conv.of rfl) rfl) ?_
      all_goals refine awpOps_cons (op_eql rfl rfl rfl) ?_
      all_goals refine awpOps_nil ?_
      refine awp_cond rfl (fun h2 => ?_) (fun h2 => ?_)
      · refine awp_exit ?_
        repeat refine ex_seq ?_
        refine ex_block ?_
        all_goals refine awp_region (id := 11) ?_
        all_goals refine awpOps_cons (op_mv rfl (Conv.of rfl) rfl) ?_
        all_goals refine awpOps_cons (op_add rfl rfl rfl (by omega)) ?_
        all_goals refine awpOps_cons (op_as rfl (Conv.of rfl) rfl) ?_
        all_goals refine awpOps_nil ?_
        repeat first | refine nx_seq ?_ | refine nx_block ?_
        exact ⟨n_ - 1, _, by omega, ⟨i + 1, by omega, rfl⟩, Le.mk rfl (tle rfl (rfl) rfl (tlb rfl rfl rfl (tlb rfl rfl rfl (tle rfl (rfl) rfl (tle rfl (rfl) rfl tln))))) (olk rfl (by exact obOk_cell) (olk rfl (by exact obOk_cell) oln)) noS⟩
      · have hib : (i : Int) + 1 ≠ bad := by simpa using h2
        have hsub := hNb.sub (by rw [hNb.id, hbad]; exact hib)
        have hin : chIn (finalOf a.seen) (finalOf b.seen) = true := by
          unfold chIn
          rw [final_chainOk (votesOk_mem hsa.1), final_chainOk (votesOk_mem hsb.1), inS_prefix (hI.safe.more hab hsub)]; rfl
        refine awp_skip ?_
        all_goals refine awp_seq (awp_region (id := 13) ?_)
        all_goals refine awpOps_cons (op_fab f29_1 rfl rfl) ?_
        all_goals refine awpOps_cons (op_ld ty26 rfl rfl rfl) ?_
        all_goals refine awpOps_cons (op_mv rfl (Conv.of rfl) rfl) ?_
        all_goals refine awpOps_cons (op_ix sl26 rfl rfl rfl (by omega) hx) ?_
        all_goals refine awpOps_cons (op_far f44_3 rfl rfl) ?_
        all_goals refine awpOps_cons (op_ldr ty27 rfl rfl) ?_
        all_goals refine awpOps_cons (op_call fb27 (.cons rfl (Conv.of rfl) (.nil _)) (treeFinal_ct _ hsa.1 (by omega)) (argOk rfl rfl argOk0) rfl rfl) ?_
        all_goals refine awpOps_cons (op_as rfl (Conv.of rfl) rfl) ?_
        all_goals refine awpOps_nil ?_
        refine awp_seq (awp_seq_to (s' := mkSt 127 [(5, .v bad), (7, .box 0 (IsLens.whole Wrld)), (11, .box 3 (IsLens.whole Wrld)), (12, .v true), (13, .v (i : Int)), (14, .v (CList.mk (finalOf a.seen))), (102, .v false)] [(0, .cell w), (3, .cell x)]) ?_ ?_)
        · all_goals refine awp_region (id := 14) ?_
          all_goals refine awpOps_cons (op_mv rfl (Conv.of rfl) rfl) ?_
          all_goals refine awpOps_cons (op_fab f29_1 rfl rfl) ?_
          all_goals refine awpOps_cons (op_ld ty26 rfl rfl rfl) ?_
          all_goals refine awpOps_cons (op_mv rfl (Conv.of rfl) rfl) ?_
          all_goals refine awpOps_cons (op_ix sl26 rfl rfl rfl (by omega) hy) ?_
          all_goals refine awpOps_cons (op_far f44_3 rfl rfl) ?_
          all_goals refine awpOps_cons (op_ldr ty27 rfl rfl) ?_
          all_goals refine awpOps_cons (op_call fb27 (.cons rfl (Conv.of rfl) (.nil _)) (treeFinal_ct _ hsb.1 (by omega)) (argOk rfl rfl argOk0) rfl rfl) ?_
          all_goals refine awpOps_cons (op_call fb29 (.cons rfl (Conv.cl) (.cons rfl (Conv.cl) (.nil _))) (chainIn_ct _ _) (argOk rfl rfl (argOk rfl rfl argOk0)) rfl rfl) ?_
          all_goals refine awpOps_cons (op_not rfl rfl) ?_
          all_goals refine awpOps_nil ?_
          all_goals exact Le.mk rfl (tle rfl (rfl) rfl (tlb rfl rfl rfl (tlb rfl rfl rfl (tle rfl (rfl) rfl (tle rfl (rfl) rfl (tle rfl (rfl) rfl (tle rfl (by (show AV.v _ = AV.v _; simp_all)) rfl tln))))))) (olk rfl (by exact obOk_cell) (olk rfl (by exact obOk_cell) oln)) noS
        refine awp_cond rfl (fun h3 => absurd h3 (by decide)) (fun h3 => ?_)
        refine awp_skip ?_
        all_goals refine awp_seq (awp_region (id := 16) ?_)
        all_goals refine awpOps_cons (op_as rfl (Conv.of rfl) rfl) ?_
        all_goals refine awpOps_nil ?_
        refine awp_toB (s' := mkSt 127 [(5, .v bad), (7, .box 0 (IsLens.whole Wrld)), (11, .box 3 (IsLens.whole Wrld)), (12, .v true), (13, .v (i : Int))] [(0, .cell w), (3, .cell x)]) ?_ ?_
        · refine awp_block ?_
          refine awp_loop' (fun n_ s => ∃ (k : Nat), ∃ (hk : n_ + k = 4), s = mkSt 127 [(5, .v bad), (7, .box 0 (IsLens.whole Wrld)), (11, .box 3 (IsLens.whole Wrld)), (12, .v true), (13, .v (i : Int)), (14, .v (CList.mk (finalOf a.seen))), (15, .v (k : Int))] [(0, .cell w), (3, .cell x)]) (4) ⟨0, by omega, rfl⟩ (Le.mk rfl (tle rfl (rfl) rfl (tlb rfl rfl rfl (tlb rfl rfl rfl (tle rfl (rfl) rfl (tle rfl (rfl) rfl (tle rfl (rfl) rfl (tle rfl (rfl) rfl tln))))))) (olk rfl (by exact obOk_cell) (olk rfl (by exact obOk_cell) oln)) noS) ?_
          rintro n_ s ⟨k, hk, rfl⟩
          all_goals refine awp_seq (awp_seq (awp_region (id := 17) ?_))
          all_goals refine awpOps_cons (op_mv rfl (Conv.of rfl) rfl) ?_
          all_goals refine awpOps_cons (op_fab f29_1 rfl rfl) ?_
          all_goals refine awpOps_cons (op_ld ty26 rfl rfl rfl) ?_
          all_goals refine awpOps_cons (op_len sl26 rfl rfl) ?_
          all_goals refine awpOps_cons (op_lss rfl rfl rfl) ?_
          all_goals refine awpOps_nil ?_
          refine awp_cond rfl (fun h4 => ?_) (fun h4 => ?_)
          · have hk2 : k < w.nodes.length := by simpa using h4
            have hz : w.nodes[k]? = some w.nodes[k] := List.getElem?_eq_getElem hk2
            generalize w.nodes[k] = c at hz
            have hsc := nodeOk_seen (hI.ok.nodes c (List.mem_of_getElem? hz))
            have hNc := hI.nodes k c hz
            have hfit : (k : Int) + 1 ≠ bad → fitsB (finalOf a.seen) (finalOf c.seen) = true := fun e => by
              exact fits_of (final_chainOk (votesOk_mem hsa.1)) (final_chainOk (votesOk_mem hsc.1)) (hI.safe.fits (fun v hv => hsub v (hab v hv)) (hNc.sub (by rw [hNc.id, hbad]; exact e)))
            refine awp_skip ?_
            refine awp_seq (awp_block ?_)
            refine awp_seq_to (s' := mkSt 127 [(5, .v bad), (7, .box 0 (IsLens.whole Wrld)), (11, .box 3 (IsLens.whole Wrld)), (12, .v true), (13, .v (i : Int)), (14, .v (CList.mk (finalOf a.seen))), (15, .v (k : Int)), (125, .v false)] [(0, .cell w), (3, .cell x)]) ?_ ?_
            · all_goals refine awp_region (id := 19) ?_
              all_goals refine awpOps_cons (op_mv rfl (Conv.of rfl) rfl) ?_
              all_goals refine awpOps_cons (op_add rfl rfl rfl (by omega)) ?_
              all_goals refine awpOps_cons (op_mv rfl (Conv.of rfl) rfl) ?_
              all_goals refine awpOps_cons (op_neq rfl rfl rfl) ?_
              all_goals refine awpOps_cons (op_mv rfl (Conv.of rfl) rfl) ?_
              all_goals refine g_split (t := 114) rfl (fun h => ?_) (fun h => ?_)
              all_goals first | refine awpOps_cons (g_off rfl rfl rfl rfl rfl) ?_ | refine awpOps_cons (g_on rfl rfl rfl (op_mv rfl (Conv.of rfl) rfl)) ?_
              all_goals first | refine awpOps_cons (g_off rfl rfl rfl rfl rfl) ?_ | refine awpOps_cons (g_on rfl rfl rfl (op_fab f29_1 rfl rfl)) ?_
              all_goals first | refine awpOps_cons (g_off rfl rfl rfl rfl rfl) ?_ | refine awpOps_cons (g_on rfl rfl rfl (op_ld ty26 rfl rfl rfl)) ?_
              all_goals first | refine awpOps_cons (g_off rfl rfl rfl rfl rfl) ?_ | refine awpOps_cons (g_on rfl rfl rfl (op_mv rfl (Conv.of rfl) rfl)) ?_
              all_goals first | refine awpOps_cons (g_off rfl rfl rfl rfl rfl) ?_ | refine awpOps_cons (g_on rfl rfl rfl (op_ix sl26 rfl rfl rfl (by omega) hz)) ?_
              all_goals first | refine awpOps_cons (g_off rfl rfl rfl rfl rfl) ?_ | refine awpOps_cons (g_on rfl rfl rfl (op_far f44_3 rfl rfl)) ?_
              all_goals first | refine awpOps_cons (g_off rfl rfl rfl rfl rfl) ?_ | refine awpOps_cons (g_on rfl rfl rfl (op_ldr ty27 rfl rfl)) ?_
              all_goals first | refine awpOps_cons (g_off rfl rfl rfl rfl rfl) ?_ | refine awpOps_cons (g_on rfl rfl rfl (op_call fb27 (.cons rfl (Conv.of rfl) (.nil _)) (treeFinal_ct _ hsc.1 (by omega)) (argOk rfl rfl argOk0) rfl rfl)) ?_
              all_goals first | refine awpOps_cons (g_off rfl rfl rfl rfl rfl) ?_ | refine awpOps_cons (g_on rfl rfl rfl (op_call fb30 (.cons rfl (Conv.cl) (.cons rfl (Conv.cl) (.nil _))) (lwFits_ct _ _) (argOk rfl rfl (argOk rfl rfl argOk0)) rfl rfl)) ?_
              all_goals first | refine awpOps_cons (g_off rfl rfl rfl rfl rfl) ?_ | refine awpOps_cons (g_on rfl rfl rfl (op_not rfl rfl)) ?_
              all_goals refine awpOps_cons (op_pick rfl rfl rfl rfl) ?_
              all_goals refine awpOps_nil ?_
              all_goals exact Le.mk rfl (tle rfl (rfl) rfl (tlb rfl rfl rfl (tlb rfl rfl rfl (tle rfl (rfl) rfl (tle rfl (rfl) rfl (tle rfl (rfl) rfl (tle rfl (rfl) rfl (tle rfl (by first | rfl | (show AV.v _ = AV.v _; simp_all)) rfl tln)))))))) (olk rfl (by exact obOk_cell) (olk rfl (by exact obOk_cell) oln)) noS
            refine awp_cond rfl (fun h5 => absurd h5 (by decide)) (fun h5 => ?_)
            refine awp_skip ?_
            all_goals refine awp_region (id := 18) ?_
            all_goals refine awpOps_cons (op_mv rfl (Conv.of rfl) rfl) ?_
            all_goals refine awpOps_cons (op_add rfl rfl rfl (by omega)) ?_
            all_goals refine awpOps_cons (op_as rfl (Conv.of rfl) rfl) ?_
            all_goals refine awpOps_nil ?_
            repeat first | refine nx_seq ?_ | refine nx_block ?_
            exact ⟨n_ - 1, _, by omega, ⟨k + 1, by omega, rfl⟩, Le.mk rfl (tle rfl (rfl) rfl (tlb rfl rfl rfl (tlb rfl rfl rfl (tle rfl (rfl) rfl (tle rfl (rfl) rfl (tle rfl (rfl) rfl (tle rfl (rfl) rfl tln))))))) (olk rfl (by exact obOk_cell) (olk rfl (by exact obOk_cell) oln)) noS⟩
          · refine awp_exit ?_
            repeat refine ex_seq ?_
            refine ex_block ?_
            all_goals exact Le.mk rfl (tle rfl (rfl) rfl (tlb rfl rfl rfl (tlb rfl rfl rfl (tle rfl (rfl) rfl (tle rfl (rfl) rfl tln))))) (olk rfl (by exact obOk_cell) (olk rfl (by exact obOk_cell) oln)) noS
        · all_goals refine awp_region (id := 11) ?_
          all_goals refine awpOps_cons (op_mv rfl (Conv.of rfl) rfl) ?_
          all_goals refine awpOps_cons (op_add rfl rfl rfl (by omega)) ?_
          all_goals refine awpOps_cons (op_as rfl (Conv.of rfl) rfl) ?_
          all_goals refine awpOps_nil ?_
          repeat first | refine nx_seq ?_ | refine nx_block ?_
          exact ⟨n_ - 1, _, by omega, ⟨i + 1, by omega, rfl⟩, Le.mk rfl (tle rfl (rfl) rfl (tlb rfl rfl rfl (tlb rfl rfl rfl (tle rfl (rfl) rfl (tle rfl (rfl) rfl tln))))) (olk rfl (by exact obOk_cell) (olk rfl (by exact obOk_cell) oln)) noS⟩
    · refine awp_exit ?_
      repeat refine ex_seq ?_
      refine ex_block ?_
      all_goals exact Le.mk rfl (tle rfl (rfl) rfl tln) oln noS
  · all_goals refine awp_seq (awp_region (id := 21) ?_)
    all_goals refine awpOps_cons (op_mv rfl (Conv.of rfl) rfl) ?_
    all_goals refine awpOps_cons (op_as rfl (Conv.of rfl) rfl) ?_
    all_goals refine awpOps_nil ?_
    refine awp_ret ?_
    repeat first | refine rt_seq ?_ | refine rt_block ?_
    exact finP (.v rfl (Conv.of rfl)) rfl rfl
end Go.Proofs.Ytlepfdmolankeaa

/- The law FnWorldStays returns true at every input, and leaves its arguments as they were. No condition. -/
set_option linter.unusedVariables false
namespace Go.Proofs.Ytlepfdmolankeaa.fnWorldStays
open Go Go.ChangeShapes Go.WideShapes Go.ChangeAt Go.RowKit
theorem own : ownKnob Try.prog.godebug = none := by kernel_rfl
theorem laidOut : laidOutB Try.prog = true := by kernel_rfl
set_option maxRecDepth 100000 in
theorem lifted (os : Os) (started : os.Started) (H : Type) (enc : TypeId × Value → H) :
    ReturnsInHanded {} Try.checked os 13 .any (Rows.fnWorldStaysSpec.pre6 enc Try.prog Try.f13 Rows.fnWorldStaysRow.domain false) (Rows.fnWorldStaysSpec.post enc Try.prog Try.f13 false true false false) := by
  refine returnsInHanded_of_change_sized (C := Try.checked) own started (by kernel_rfl) Try.func13
    (ChangeSpec.witness6 (enc := enc) (C := Try.checked) false ⟨#[], #[.slice none 0 0, .slice none 0 0], []⟩ 8 (by kernel_rfl) (by kernel_rfl) (by kernel_rfl) (by kernel_rfl)) ?_
  intro W base args ds gs before hval0 hW hcnd hsz0 _
  have hsz : (DataW.weightsEach Try.prog (Try.f13.params.toList ++ Rows.fnWorldStaysSpec.plain.varTypes Try.prog) (ds ++ gs)).all (· ≤ reachBytes) = true := hsz0
  have hval : ∀ (j : Nat) t v, Try.f13.params[j]? = some t → args[j]? = some v → Value.okWide Try.prog W .any base t v := hval0
  have hW' := hW
  obtain ⟨p, q, hA0, hV, rfl, hfz, hnd⟩ := hW
  have hA : DataW.TrodAll enc Try.prog W 0 (fun _ => true) true Try.f13.params.toList args.toList ds p := hA0
  rw [Try.params13] at hA hval hsz
  obtain ⟨v0, vs0, d0, ds0, p0, q0, hargs, rfl, rfl, h0, r0⟩ := trodAll_cons hA
  obtain ⟨v1, vs1, d1, ds1, p1, q1, rfl, rfl, rfl, h1, r1⟩ := trodAll_cons r0
  obtain ⟨rfl, rfl, rfl⟩ := trodAll_nil r1
  obtain rfl : args = #[v0, v1] := by cases args; simp_all
  obtain ⟨rfl, rfl⟩ := trodVars_none hV
  obtain ⟨a0, len0, cap0, rfl⟩ := okWide_slice Try.underlying22 (hval 0 22 v0 rfl rfl)
  have k0 := h0
  have lt0 : ∀ x ∈ p0, x.block < W.heap.size := by obtain ⟨m, hm⟩ := k0; exact DataW.trod_lt m _ _ _ hm
  obtain ⟨z0, w0⟩ := Go.Wt.rowOf (fun _ => rfl) Try.underlying22 Try.underlying5 (by kernel_rfl) h0
  have y0 := Go.Wt.lenOf hsz (j := 0) (t := 22) rfl rfl Try.underlying22 Try.underlying5 (by kernel_rfl) (by kernel_rfl) h0
  obtain ⟨a1, len1, cap1, rfl⟩ := okWide_slice Try.underlying22 (hval 1 22 v1 rfl rfl)
  have k1 := h1
  have lt1 : ∀ x ∈ p1, x.block < W.heap.size := by obtain ⟨m, hm⟩ := k1; exact DataW.trod_lt m _ _ _ hm
  obtain ⟨z1, w1⟩ := Go.Wt.rowOf (fun _ => rfl) Try.underlying22 Try.underlying5 (by kernel_rfl) h1
  have y1 := Go.Wt.lenOf hsz (j := 1) (t := 22) rfl rfl Try.underlying22 Try.underlying5 (by kernel_rfl) (by kernel_rfl) h1
  clear hA0 hval0 hsz0 hsz
  refine (Go.Wt.row2 FnWorldStays_ct W w0 y0 w1 y1).mono fun e W' ⟨he, bel⟩ => ?_
  subst he
  exact ⟨_, rfl, _, _, _, [], _, [], hW', trodAll_mk1 (shut_bool Try.underlying4 _), (trodAll_cons_mk (Below.trod laidOut (by kernel_rfl) (of_decide_eq_true (by kernel_rfl)) k0 bel lt0) (trodAll_cons_mk (Below.trod laidOut (by kernel_rfl) (of_decide_eq_true (by kernel_rfl)) k1 bel lt1) trodAll_mk0)), rfl, bel.frame _, fun h => by cases h⟩
theorem over : Rows.fnWorldStaysRow.holds Try.pinned (OpenSpec.ofChange Rows.fnWorldStaysSpec) :=
  OpenClaim.holds_of_wide 13 Try.f13 rfl rfl rfl rfl rfl rfl rfl ⟨rfl, rfl, rfl, rfl, rfl⟩ rfl rfl rfl rfl rfl (by kernel_rfl) Try.func13 (by kernel_rfl)
    (of_decide_eq_true (by kernel_rfl)) (by unfold Func.isWrapper; first | (rw [if_pos (by decide +kernel)]; kernel_rfl) | (rw [if_neg (by decide +kernel)]; exact ⟨rfl, rfl⟩))
    (fun os started H enc _ => lifted os started H enc)
end Go.Proofs.Ytlepfdmolankeaa.fnWorldStays
namespace Go.Proofs.Ytlepfdmolankeaa
theorem fnWorldStays_holds : Rows.FnWorldStaysSaid := fnWorldStays.over
#print axioms fnWorldStays_holds
end Go.Proofs.Ytlepfdmolankeaa
