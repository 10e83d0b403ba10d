/- The law FnNodeMore returns true at every input, and leaves its arguments as they were. No condition. -/
import Derived.Test.YtmdhfalfppkpeaaGreatM5
import Derived.Test.YtmdhfalfppkpeaaGreatRows
import Derived.WalkKit
import Derived.ProofKit
import Derived.OpenShut
import Derived.ShutString
import Derived.ChangeOld
import Derived.Below
import Derived.SizedLaws
import Derived.KernelRfl
/- The reference: drawn nodes. -/
set_option linter.unusedVariables false
set_option linter.unusedSimpArgs false
namespace Go.Proofs.YtmdhfalfppkpeaaGreat
open Go Go.Wt
theorem l12EnterP_ct (n : Nod) (e : Int) (hn : 0 ≤ n.epoch ∧ n.epoch ≤ 30) : CtP Tryz.prog 99 [.v n, .v e] (.v (enterF n e)) := by
  refine Ct.intro Tryz.func99 rfl rfl ?_
  all_goals refine awp_seq (awp_region (id := 0) ?_)
  all_goals refine awpOps_cons (op_box (o := 0) ty41 rfl (Conv.of rfl) rfl rfl) ?_
  all_goals refine awpOps_cons (op_alloc (o := 1) z41 rfl rfl) ?_
  all_goals refine awpOps_nil ?_
  all_goals refine awp_seq (awp_seq (awp_region (id := 1) ?_))
  all_goals refine awpOps_cons (op_mv rfl (Conv.of rfl) rfl) ?_
  all_goals refine awpOps_cons (op_fab f41_1 rfl rfl) ?_
  all_goals refine awpOps_cons (op_ld ty3 rfl rfl rfl) ?_
  all_goals refine awpOps_cons (op_add rfl rfl rfl (by omega)) ?_
  all_goals refine awpOps_cons (op_call fb80 (.cons rfl (Conv.of rfl) (.cons rfl (Conv.of rfl) (.cons rfl (Conv.of rfl) (.nil _)))) (l6In_ct _ _ _) (argOk rfl rfl (argOk rfl rfl (argOk rfl rfl argOk0))) rfl rfl) ?_
  all_goals refine awpOps_nil ?_
  refine awp_cond rfl (fun h => ?_) (fun h => ?_)
  · all_goals refine awp_region (id := 2) ?_
    all_goals refine awpOps_cons (op_mv rfl (Conv.of rfl) rfl) ?_
    all_goals refine awpOps_cons (op_fab f41_1 rfl rfl) ?_
    all_goals refine awpOps_cons (op_st ty3 rfl rfl (Conv.of rfl) rfl) ?_
    all_goals refine awpOps_nil ?_
    all_goals refine awp_seq (awp_region (id := 3) ?_)
    all_goals refine awpOps_cons (op_ld ty41 rfl rfl rfl) ?_
    all_goals refine awpOps_cons (op_st ty41 rfl rfl (Conv.of rfl) rfl) ?_
    all_goals refine awpOps_nil ?_
    refine awp_ret ?_
    repeat first | refine rt_seq ?_ | refine rt_block ?_
    refine ⟨_, _, res1 (ol := []) (.rc ty41 rfl rfl) (fun o ho => by cases ho) oln noS, ?_, rfl⟩
    have h' : within e (n.epoch + 1) 30 = true := h
    show AV.v _ = AV.v _
    simp [enterF, h']
  · refine awp_skip ?_
    all_goals refine awp_seq (awp_region (id := 3) ?_)
    all_goals refine awpOps_cons (op_ld ty41 rfl rfl rfl) ?_
    all_goals refine awpOps_cons (op_st ty41 rfl rfl (Conv.of rfl) rfl) ?_
    all_goals refine awpOps_nil ?_
    refine awp_ret ?_
    repeat first | refine rt_seq ?_ | refine rt_block ?_
    refine ⟨_, _, res1 (ol := []) (.rc ty41 rfl rfl) (fun o ho => by cases ho) oln noS, ?_, rfl⟩
    have h' : within e (n.epoch + 1) 30 = false := h
    show AV.v _ = AV.v _
    simp [enterF, h']
set_option maxHeartbeats 4000000 in
theorem l72Node_ct (r : Rd) (hp : Far 1000 r) : Ct Tryz.prog 97 [.box 0 (IsLens.whole Rd)] (obs [(0, .cell r)]) (fun r1 h1 => ∃ (n : Nod) (w : Wrld) (r' : Rd), r1 = .tup [.v n, .v w] ∧ h1 = obs [(0, .cell r')] ∧ Ln n ∧ FineX w ∧ Far 21000 r') := by
  refine Ct.intro Tryz.func97 rfl rfl ?_
  all_goals refine awp_seq (awp_region (id := 0) ?_)
  all_goals refine awpOps_cons (op_alloc (o := 5) z41 rfl rfl) ?_
  all_goals refine awpOps_cons (op_alloc (o := 6) z29 rfl rfl) ?_
  all_goals refine awpOps_nil ?_
  all_goals refine awp_seq (awp_region (id := 1) ?_)
  all_goals refine awpOps_cons (op_mv rfl (Conv.of rfl) rfl) ?_
  refine awpOps_callO [(0, .cell r)] rfl fb53 (.cons rfl (Conv.of rfl) (.nil _)) (l72Play_ct r hp) (olsk rfl ols0) (oksk obOk_cell oks0) (argOb rfl rfl rfl argO0) rfl ?_
  rintro r_ h' ⟨bad, evs, w, r1, rfl, rfl, he, hb, hw, hf⟩
  refine ⟨ro r1 w, rfl, fun o ho => ?_, fun o ho h1 => ?_, oksk obOk_cell (oksk obOkNs oks0), fun o ho => ?_, ?_⟩
  · have : o = 0 := by simpa [keys, lk0] using ho
    subst this; rfl
  · by_cases e0 : o = 0
    · subst e0; cases h1
    · have : o = 1 := by simpa [keys, lk0, e0] using ho
      subst this; rfl
  · have : o = 1 := by simpa using (show o ∈ [1] from ho)
    subst this; rfl
  have h4 := hw.four
  have hf1 : Far 20001 (nx r1 1) := hf.nx (by omega) (by omega)
  have hf2 : Far 20002 (nx (nx r1 1) 1) := hf1.nx (by omega) (by omega)
  have hf3 : Far 20003 (nx (nx (nx r1 1) 1) 1) := hf2.nx (by omega) (by omega)
  have d4 := pk_bd hf (by omega) 4
  have f4 := d4.2 (by omega)
  have d5 := pk_bd hf2 (by omega) 4
  have f5 := d5.2 (by omega)
  have g5 := gi_get (l := [0, 5, 1, 2]) d5.1 (by simp; omega)
  all_goals refine awpOps_cons (op_mvo rfl rfl rfl rfl) ?_
  all_goals refine awpOps_cons (op_ext rfl rfl rfl) ?_
  all_goals refine awpOps_cons (op_extm rfl rfl rfl rfl) ?_
  all_goals refine awpOps_cons (op_extm rfl rfl rfl rfl) ?_
  all_goals refine awpOps_cons (op_alloc (o := 7) z29_WrldS rfl rfl) ?_
  all_goals refine awpOps_cons (op_as rfl (Conv.of rfl) rfl) ?_
  all_goals refine awpOps_cons (op_asl rfl rfl rfl rfl) ?_
  all_goals refine awpOps_cons (op_stm ty29_WrldS rfl rfl rfl) ?_
  all_goals refine awpOps_nil ?_
  all_goals refine awp_seq (awp_region (id := 2) ?_)
  all_goals refine awpOps_cons (op_mv rfl (Conv.of rfl) rfl) ?_
  all_goals refine awpOps_cons (op_callO fb54 (.cons rfl (Conv.of rfl) (.cons rfl (Conv.of rfl) (.nil _))) (pick_ct r1 4 (by unfold Far at hf; omega)) (olsk rfl ols0) (oksk (by exact obOk_cell) oks0) (oksk (by exact obOk_cell) oks0) rfl (argOb rfl rfl rfl (argOk' rfl rfl argO0)) (fun o ho => by cases ho) rfl) ?_
  all_goals refine awpOps_cons (op_add rfl rfl rfl (by omega)) ?_
  all_goals refine awpOps_cons (op_as rfl (Conv.of rfl) rfl) ?_
  all_goals refine awpOps_nil ?_
  all_goals refine awp_seq (awp_seq (awp_region (id := 3) ?_))
  all_goals refine awpOps_cons (op_mv rfl (Conv.of rfl) rfl) ?_
  all_goals refine awpOps_cons (op_mv rfl (Conv.of rfl) rfl) ?_
  all_goals refine awpOps_cons (op_eql rfl rfl rfl) ?_
  all_goals refine awpOps_nil ?_
  have hid := idF_bd (bad := bad) (q := 1 + pk r1 4) (by omega)
  refine awp_to (s' := mkSt 57 [(0, .box 0 (IsLens.whole Rd)), (2, .box 5 (IsLens.whole Nod)), (3, .box 6 (IsLens.whole Wrld)), (6, .box 7 (IsLens.whole WrldS)), (7, .v (idF bad (1 + pk r1 4)))] [(0, .cell (nx r1 1)), (1, .arr (w.nodes.map sN)), (7, .cell (sW w)), (5, .cell Nod.zero), (6, .cell Wrld.zero)]) ?_ ?_
  · refine awp_cond rfl (fun h => ?_) (fun h => ?_)
    · have ht4 := tmod_bd (show (0 : Int) ≤ 1 + pk r1 4 by omega) (show (0 : Int) < 4 by omega)
      all_goals refine awp_region (id := 4) ?_
      all_goals refine awpOps_cons (op_mv rfl (Conv.of rfl) rfl) ?_
      all_goals refine awpOps_cons (op_rem rfl rfl rfl (by decide)) ?_
      all_goals refine awpOps_cons (op_add rfl rfl rfl (by omega)) ?_
      all_goals refine awpOps_cons (op_as rfl (Conv.of rfl) rfl) ?_
      all_goals refine awpOps_nil ?_
      all_goals exact Le.mk rfl (tlb rfl rfl rfl (tlb rfl rfl rfl (tlb rfl rfl rfl (tlb rfl rfl rfl (tle rfl (by (show AV.v _ = AV.v _; congr 1; unfold idF; rw [if_pos (by simpa using (show (1 + pk r1 4 == bad) = true from h))])) rfl tln))))) (olk rfl (by exact obOk_cell) (olk rfl (by exact obOkNs) (olk rfl (by exact obOkS rfl) (olk rfl (by exact obOk_cell) (olk rfl (by exact obOk_cell) oln))))) (hS_sub (a := [(0, .cell r)]) rfl)
    · refine awp_skip ?_
      all_goals exact Le.mk rfl (tlb rfl rfl rfl (tlb rfl rfl rfl (tlb rfl rfl rfl (tlb rfl rfl rfl (tle rfl (by (show AV.v _ = AV.v _; congr 1; unfold idF; rw [if_neg (by simpa using (show (1 + pk r1 4 == bad) = false from h))])) rfl tln))))) (olk rfl (by exact obOk_cell) (olk rfl (by exact obOkNs) (olk rfl (by exact obOkS rfl) (olk rfl (by exact obOk_cell) (olk rfl (by exact obOk_cell) oln))))) (hS_sub (a := [(0, .cell r)]) rfl)
  generalize idF bad (1 + pk r1 4) = id at hid ⊢
  have hx : w.nodes[(id - 1).toNat]? = some (w.nodes[(id - 1).toNat]'(by omega)) := List.getElem?_eq_getElem (by omega)
  generalize w.nodes[(id - 1).toNat]'(by omega) = n at hx
  have hx' : (w.nodes.map sN)[(id - 1).toNat]? = some (sN n) := by rw [List.getElem?_map, hx]; rfl
  have hln := hw.ln (List.mem_of_getElem? hx)
  have hlep := hln.ep
  have hnl := hw.lw.sl n (List.mem_of_getElem? hx)
  have hv := voteD_p hf2 (by omega)
  have hvf := voteD_far (m' := 20062) hf2 (by omega) (by omega)
  by_cases hq1 : pk (nx r1 1) 24 = 1
  · all_goals refine awp_seq (awp_region (id := 5) ?_)
    all_goals refine awpOps_cons (op_fab f29_1_WrldS rfl rfl) ?_
    all_goals refine awpOps_cons (op_ld ty26_NRef rfl rfl rfl) ?_
    all_goals refine awpOps_cons (op_mv rfl (Conv.of rfl) rfl) ?_
    all_goals refine awpOps_cons (op_sub rfl rfl rfl (by omega)) ?_
    all_goals refine awpOps_cons (op_ixA sl26_NodS rfl rfl rfl rfl ⟨by omega, by simp; omega⟩) ?_
    all_goals refine awpOps_cons (op_ldme ty41_NodS rfl rfl hx' rfl) ?_
    all_goals refine awpOps_cons (op_alloc (o := 8) z41_NodS rfl rfl) ?_
    all_goals refine awpOps_cons (op_stm ty41_NodS rfl rfl rfl) ?_
    all_goals refine awpOps_nil ?_
    all_goals refine awp_seq (awp_seq (awp_region (id := 6) ?_))
    all_goals refine awpOps_cons (op_mv rfl (Conv.of rfl) rfl) ?_
    all_goals refine awpOps_cons (op_callO fb54 (.cons rfl (Conv.of rfl) (.cons rfl (Conv.of rfl) (.nil _))) (pick_ct (nx r1 1) 24 (by unfold Far at hf1; omega)) (olsk rfl ols0) (oksk (by exact obOk_cell) oks0) (oksk (by exact obOk_cell) oks0) rfl (argOb rfl rfl rfl (argOk' rfl rfl argO0)) (fun o ho => by cases ho) rfl) ?_
    all_goals refine awpOps_nil ?_
    rw [hq1]
    refine awp_to (s' := mkSt 57 [(0, .box 0 (IsLens.whole Rd)), (2, .box 5 (IsLens.whole Nod)), (3, .box 6 (IsLens.whole Wrld)), (6, .box 7 (IsLens.whole WrldS)), (8, .box 8 (IsLens.whole NodS))] [(0, .cell (voteDF (nx (nx r1 1) 1)).2), (1, .arr ((w.nodes.map sN).set (id - 1).toNat (fN n))), (7, .cell (sW w)), (8, .cell (sN { n with seen := n.seen ++ [(voteDF (nx (nx r1 1) 1)).1] })), (5, .cell Nod.zero), (6, .cell Wrld.zero)]) ?_ ?_
    · refine awp_block ?_
      all_goals refine awp_seq (awp_region (id := 7) ?_)
      all_goals refine awpOps_cons (op_eql rfl rfl rfl) ?_
      all_goals refine awpOps_cons (op_as rfl (Conv.of rfl) rfl) ?_
      all_goals refine awpOps_nil ?_
      refine awp_cond rfl (fun h => absurd h (by decide)) (fun h => ?_)
      all_goals refine awp_seq (awp_region (id := 9) ?_)
      all_goals refine awpOps_cons (op_eql rfl rfl rfl) ?_
      all_goals refine awpOps_cons (op_as rfl (Conv.of rfl) rfl) ?_
      all_goals refine awpOps_nil ?_
      refine awp_cond rfl (fun h => ?_) (fun h => absurd h (by decide))
      all_goals refine dr_start (id := 10) ?_
      all_goals refine dr_cons (op_fab f41_3_NodS rfl rfl) ?_
      all_goals refine dr_cons (op_ldm ty27_OListVote rfl rfl rfl) ?_
      all_goals refine dr_cons (op_mv rfl (Conv.of rfl) rfl) ?_
      all_goals refine dr_cons (op_callO fb98 (.cons rfl (Conv.of rfl) (.nil _)) (voteD_ct (nx (nx r1 1) 1) (hf2.weak (by omega))) (olsk rfl ols0) (oksk (by exact obOk_cell) oks0) (oksk (by exact obOk_cell) oks0) rfl (argOb rfl rfl rfl argO0) (fun o ho => by cases ho) rfl) ?_
      all_goals refine dr_cons (op_bsl sl27 z48 (.cons rfl (Conv.of rfl) (.nil _)) rfl (by decide) rfl) ?_
      all_goals refine dr_cons (op_app sl27 z48 ul27 rfl rfl rfl (by (simp [sN]; omega)) (by (simp [sN]; omega)) rfl rfl) ?_
      all_goals refine dr_cons (op_fab f41_3_NodS rfl rfl) ?_
      all_goals refine dr_cons (op_stm ty27_OListVote rfl rfl rfl) ?_
      all_goals refine dr_nil mixed rfl ?_
      all_goals exact Le.mk rfl (tlb rfl rfl rfl (tlb rfl rfl rfl (tlb rfl rfl rfl (tlb rfl rfl rfl (tlb rfl rfl rfl tln))))) (olk rfl (by exact obOk_cell) (olk rfl (by exact obOkNs) (olk rfl (by exact obOkS rfl) (olk rfl (by exact obOkN) (olk rfl (by exact obOk_cell) (olk rfl (by exact obOk_cell) oln)))))) (hS_sub (a := [(0, .cell r)]) rfl)
    refine awp_le (Le.trans (b := mkSt 57 [(6, .box 7 (IsLens.whole WrldS)), (0, .box 0 (IsLens.whole Rd)), (2, .box 5 (IsLens.whole Nod)), (3, .box 6 (IsLens.whole Wrld)), (8, .box 8 (IsLens.whole NodS))] [(7, .cell (WrldS.mk w.epoch (.ref 1) ⟨w.log, true⟩ w.bad)), (1, .arr ((w.nodes.map sN).set (id - 1).toNat (fN n))), (0, .cell (voteDF (nx (nx r1 1) 1)).2), (8, .cell (sN { n with seen := n.seen ++ [(voteDF (nx (nx r1 1) 1)).1] })), (5, .cell Nod.zero), (6, .cell Wrld.zero)]) (Le.mk rfl (tlb rfl rfl rfl (tlb rfl rfl rfl (tlb rfl rfl rfl (tlb rfl rfl rfl (tlb rfl rfl rfl tln))))) (olk rfl (by exact obOkS rfl) (olk rfl (by exact obOkNs) (olk rfl (by exact obOk_cell) (olk rfl (by exact obOkN) (olk rfl (by exact obOk_cell) (olk rfl (by exact obOk_cell) oln)))))) (hS_sub (a := [(0, .cell r)]) rfl)) (Le.frzWr (t := 6) (c := 7) (o := 1) (w0 := w) (own := true) (fun _ _ => arr_nF hx) (by show _ ≤ 4611686018427387904; omega) rfl (hS_sub rfl) rfl rfl rfl (oblk obOk_cell (oblk obOkN (oblk obOk_cell (oblk obOk_cell obl0)))))) ?_
    refine awp_le (Le.trans (b := mkSt 57 [(8, .box 8 (IsLens.whole NodS)), (6, .box 7 (IsLens.whole Wrld)), (0, .box 0 (IsLens.whole Rd)), (2, .box 5 (IsLens.whole Nod)), (3, .box 6 (IsLens.whole Wrld))] [(8, .cell (sN { n with seen := n.seen ++ [(voteDF (nx (nx r1 1) 1)).1] })), (7, .cell w), (0, .cell (voteDF (nx (nx r1 1) 1)).2), (5, .cell Nod.zero), (6, .cell Wrld.zero)]) (Le.mk rfl (tlb rfl rfl rfl (tlb rfl rfl rfl (tlb rfl rfl rfl (tlb rfl rfl rfl (tlb rfl rfl rfl tln))))) (olk rfl (by exact obOkN) (olk rfl (by exact obOk_cell) (olk rfl (by exact obOk_cell) (olk rfl (by exact obOk_cell) (olk rfl (by exact obOk_cell) oln))))) (hS_sub (a := [(0, .cell r)]) rfl)) (Le.recell (y := { n with seen := n.seen ++ [(voteDF (nx (nx r1 1) 1)).1] }) (fun G w ω cs hh => rd_SN hh))) ?_
    all_goals refine awp_seq (dr_start (id := 13) ?_)
    all_goals refine dr_cons (op_ld ty41_Nod rfl rfl rfl) ?_
    all_goals refine dr_cons (op_ld ty29_Wrld rfl rfl rfl) ?_
    all_goals refine dr_cons (op_st ty41_Nod rfl rfl (Conv.of rfl) rfl) ?_
    all_goals refine dr_cons (op_st ty29_Wrld rfl rfl (Conv.of rfl) rfl) ?_
    all_goals refine dr_nil mixed rfl ?_
    refine awp_ret ?_
    repeat first | refine rt_seq ?_ | refine rt_block ?_
    exact ⟨_, _, resN (ol := [(0, .cell (voteDF (nx (nx r1 1) 1)).2)]) (.cons (.rc ty41_Nod rfl rfl) (.cons (.rc ty29_Wrld rfl rfl) .nil)) rfl (fun o ho => absurd (show o ∈ ([] : List Nat) from ho) (by simp)) (olk rfl obOk_cell oln) (hS_sub rfl), _, _, _, rfl, rfl, ⟨hln.ep, by simp; omega, fun v hvv => by
      rcases List.mem_append.1 hvv with q | q
      · exact hln.sc v q
      · simp at q; subst q; omega⟩, hw, hvf.weak (by omega)⟩
  · refine awp_le (Le.trans (b := mkSt 57 [(6, .box 7 (IsLens.whole WrldS)), (0, .box 0 (IsLens.whole Rd)), (2, .box 5 (IsLens.whole Nod)), (3, .box 6 (IsLens.whole Wrld)), (7, .v id)] [(7, .cell (WrldS.mk w.epoch (.ref 1) ⟨w.log, true⟩ w.bad)), (1, .arr (w.nodes.map sN)), (0, .cell (nx r1 1)), (5, .cell Nod.zero), (6, .cell Wrld.zero)]) (Le.mk rfl (tlb rfl rfl rfl (tlb rfl rfl rfl (tlb rfl rfl rfl (tlb rfl rfl rfl (tle rfl (rfl) rfl tln))))) (olk rfl (by exact obOkS rfl) (olk rfl (by exact obOkNs) (olk rfl (by exact obOk_cell) (olk rfl (by exact obOk_cell) (olk rfl (by exact obOk_cell) oln))))) (hS_sub (a := [(0, .cell r)]) rfl)) (Le.frzW (t := 6) (c := 7) (o := 1) (w0 := w) (own := true) (by show _ ≤ 4611686018427387904; omega) rfl (hS_sub rfl) rfl rfl rfl (oblk obOk_cell (oblk obOk_cell (oblk obOk_cell obl0))))) ?_
    all_goals refine awp_seq (awp_region (id := 5) ?_)
    all_goals refine awpOps_cons (op_fab f29_1_Wrld rfl rfl) ?_
    all_goals refine awpOps_cons (op_ld ty26_ListNod rfl rfl rfl) ?_
    all_goals refine awpOps_cons (op_mv rfl (Conv.of rfl) rfl) ?_
    all_goals refine awpOps_cons (op_sub rfl rfl rfl (by omega)) ?_
    all_goals refine awpOps_cons (op_ix sl26 rfl rfl rfl (by omega) hx) ?_
    all_goals refine awpOps_cons (op_ldr ty41_Nod rfl rfl) ?_
    all_goals refine awpOps_cons (op_alloc (o := 8) z41_Nod rfl rfl) ?_
    all_goals refine awpOps_cons (op_st ty41_Nod rfl rfl (Conv.of rfl) rfl) ?_
    all_goals refine awpOps_nil ?_
    all_goals refine awp_seq (awp_seq (awp_region (id := 6) ?_))
    all_goals refine awpOps_cons (op_mv rfl (Conv.of rfl) rfl) ?_
    all_goals refine awpOps_cons (op_callO fb54 (.cons rfl (Conv.of rfl) (.cons rfl (Conv.of rfl) (.nil _))) (pick_ct (nx r1 1) 24 (by unfold Far at hf1; omega)) (olsk rfl ols0) (oksk (by exact obOk_cell) oks0) (oksk (by exact obOk_cell) oks0) rfl (argOb rfl rfl rfl (argOk' rfl rfl argO0)) (fun o ho => by cases ho) rfl) ?_
    all_goals refine awpOps_nil ?_
    generalize pk (nx r1 1) 24 = q at hq1 ⊢
    refine nx_seq (awp_to_ex (ι := Nod × Rd) (fun i => mkSt 57 [(0, .box 0 (IsLens.whole Rd)), (2, .box 5 (IsLens.whole Nod)), (3, .box 6 (IsLens.whole Wrld)), (6, .box 7 (IsLens.whole Wrld)), (8, .box 8 (IsLens.whole Nod))] [(0, .cell i.2), (7, .cell w), (8, .cell i.1), (5, .cell Nod.zero), (6, .cell Wrld.zero)]) (fun i => Ln i.1 ∧ Far 21000 i.2) ?_ ?_)
    · refine awp_block ?_
      all_goals refine awp_seq (awp_region (id := 7) ?_)
      all_goals refine awpOps_cons (op_eql rfl rfl rfl) ?_
      all_goals refine awpOps_cons (op_as rfl (Conv.of rfl) rfl) ?_
      all_goals refine awpOps_nil ?_
      refine awp_cond rfl (fun h => ?_) (fun h => ?_)
      · all_goals refine awp_region (id := 8) ?_
        all_goals refine awpOps_cons (op_fab f41_1_Nod rfl rfl) ?_
        all_goals refine awpOps_cons (op_ld ty3 rfl rfl rfl) ?_
        all_goals refine awpOps_cons (op_add rfl rfl rfl (by omega)) ?_
        all_goals refine awpOps_cons (op_fab f41_2_Nod rfl rfl) ?_
        all_goals refine awpOps_cons (op_st ty3 rfl rfl (Conv.of rfl) rfl) ?_
        all_goals refine awpOps_nil ?_
        repeat first | refine nx_seq ?_ | refine nx_block ?_
        exact ⟨({ n with voted := n.epoch + 1 }, nx (nx r1 1) 1), ⟨⟨hln.ep, hln.sl, hln.sc⟩, hf2.weak (by omega)⟩, Le.mk rfl (tlb rfl rfl rfl (tlb rfl rfl rfl (tlb rfl rfl rfl (tlb rfl rfl rfl (tlb rfl rfl rfl tln))))) (olk rfl (by exact obOk_cell) (olk rfl (by exact obOk_cell) (olk rfl (by exact obOk_cell) (olk rfl (by exact obOk_cell) (olk rfl (by exact obOk_cell) oln))))) (hS_sub (a := [(0, .cell r)]) rfl)⟩
      · all_goals refine awp_seq (awp_region (id := 9) ?_)
        all_goals refine awpOps_cons (op_eql rfl rfl rfl) ?_
        all_goals refine awpOps_cons (op_as rfl (Conv.of rfl) rfl) ?_
        all_goals refine awpOps_nil ?_
        refine awp_cond rfl (fun h2 => absurd (of_decide_eq_true h2) hq1) (fun h2 => ?_)
        all_goals refine awp_seq (awp_region (id := 11) ?_)
        all_goals refine awpOps_cons (op_eql rfl rfl rfl) ?_
        all_goals refine awpOps_cons (op_as rfl (Conv.of rfl) rfl) ?_
        all_goals refine awpOps_nil ?_
        refine awp_cond rfl (fun h3 => ?_) (fun h3 => ?_)
        · all_goals refine awp_region (id := 12) ?_
          all_goals refine awpOps_cons (op_bsl sl61 z3 (.cons rfl (Conv.of rfl) (.cons rfl (Conv.of rfl) (.cons rfl (Conv.of rfl) (.cons rfl (Conv.of rfl) (.nil _))))) rfl (by decide) rfl) ?_
          all_goals refine awpOps_cons (op_mv rfl (Conv.of rfl) rfl) ?_
          all_goals refine awpOps_cons (op_callO fb54 (.cons rfl (Conv.of rfl) (.cons rfl (Conv.of rfl) (.nil _))) (pick_ct (nx (nx r1 1) 1) 4 (by unfold Far at hf2; omega)) (olsk rfl ols0) (oksk (by exact obOk_cell) oks0) (oksk (by exact obOk_cell) oks0) rfl (argOb rfl rfl rfl (argOk' rfl rfl argO0)) (fun o ho => by cases ho) rfl) ?_
          all_goals refine awpOps_cons (op_ix sl61 rfl rfl rfl d5.1 g5) ?_
          all_goals refine awpOps_cons (op_ldr ty3 rfl rfl) ?_
          all_goals refine awpOps_cons (op_fab f41_0_Nod rfl rfl) ?_
          all_goals refine awpOps_cons (op_st ty3 rfl rfl (Conv.of rfl) rfl) ?_
          all_goals refine awpOps_nil ?_
          repeat first | refine nx_seq ?_ | refine nx_block ?_
          exact ⟨({ n with id := gi [0, 5, 1, 2] (pk (nx (nx r1 1) 1) 4) }, nx (nx (nx r1 1) 1) 1), ⟨⟨hln.ep, hln.sl, hln.sc⟩, hf3.weak (by omega)⟩, Le.mk rfl (tlb rfl rfl rfl (tlb rfl rfl rfl (tlb rfl rfl rfl (tlb rfl rfl rfl (tlb rfl rfl rfl tln))))) (olk rfl (by exact obOk_cell) (olk rfl (by exact obOk_cell) (olk rfl (by exact obOk_cell) (olk rfl (by exact obOk_cell) (olk rfl (by exact obOk_cell) oln))))) (hS_sub (a := [(0, .cell r)]) rfl)⟩
        · refine awp_skip ?_
          repeat first | refine nx_seq ?_ | refine nx_block ?_
          exact ⟨(n, nx (nx r1 1) 1), ⟨hln, hf2.weak (by omega)⟩, Le.mk rfl (tlb rfl rfl rfl (tlb rfl rfl rfl (tlb rfl rfl rfl (tlb rfl rfl rfl (tlb rfl rfl rfl tln))))) (olk rfl (by exact obOk_cell) (olk rfl (by exact obOk_cell) (olk rfl (by exact obOk_cell) (olk rfl (by exact obOk_cell) (olk rfl (by exact obOk_cell) oln))))) (hS_sub (a := [(0, .cell r)]) rfl)⟩
    · rintro ⟨m, r2⟩ ⟨hm, hr2⟩
      simp only at hm hr2 ⊢
      all_goals refine awp_seq (dr_start (id := 13) ?_)
      all_goals refine dr_cons (op_ld ty41_Nod rfl rfl rfl) ?_
      all_goals refine dr_cons (op_ld ty29_Wrld rfl rfl rfl) ?_
      all_goals refine dr_cons (op_st ty41_Nod rfl rfl (Conv.of rfl) rfl) ?_
      all_goals refine dr_cons (op_st ty29_Wrld rfl rfl (Conv.of rfl) rfl) ?_
      all_goals refine dr_nil mixed rfl ?_
      refine awp_ret ?_
      repeat first | refine rt_seq ?_ | refine rt_block ?_
      exact ⟨_, _, resN (ol := [(0, .cell r2)]) (.cons (.rc ty41_Nod rfl rfl) (.cons (.rc ty29_Wrld rfl rfl) .nil)) rfl (fun o ho => absurd (show o ∈ ([] : List Nat) from ho) (by simp)) (olk rfl obOk_cell oln) (hS_sub rfl), _, _, _, rfl, rfl, hm, hw, hr2⟩
end Go.Proofs.YtmdhfalfppkpeaaGreat

/- The reference: drawn nodes and votes. -/
set_option linter.unusedVariables false
set_option linter.unusedSimpArgs false
namespace Go.Proofs.YtmdhfalfppkpeaaGreat
open Go Go.Wt
set_option maxHeartbeats 4000000 in
theorem drawNodeHear_ct (code : List UInt8) : Ct Tryz.prog 37 [.v code] noObj (fun r1 h1 => ∃ (n : Nod) (v : Vote), r1 = .tup [.v n, .v v] ∧ h1 = noObj ∧ Ln n ∧ v.chain.length ≤ 1000) := by
  refine Ct.intro Tryz.func37 rfl rfl ?_
  all_goals refine awp_seq (awp_region (id := 0) ?_)
  all_goals refine awpOps_cons (op_alloc (o := 5) z41 rfl rfl) ?_
  all_goals refine awpOps_cons (op_alloc (o := 6) z48 rfl rfl) ?_
  all_goals refine awpOps_nil ?_
  all_goals refine awp_seq (awp_region (id := 1) ?_)
  all_goals refine awpOps_cons (op_mv rfl (Conv.of rfl) rfl) ?_
  refine awpOps_callO [] rfl fb52 (.cons rfl (Conv.of rfl) (.nil _)) (l6Open_ct code) ols0 oks0 (argOk' rfl rfl argO0) rfl ?_
  rintro r_ h' ⟨rfl, rfl⟩
  refine ⟨[(0, .cell (Rd.mk (code.take 2000) 0))], rfl, (fun o ho => by cases ho), fun o ho _ => ?_, oksk obOk_cell oks0, fun o ho => ?_, ?_⟩
  · have : o = 0 := by simpa [keys, lk0] using ho
    subst this; rfl
  · have : o = 0 := by simpa using (show o ∈ [0] from ho)
    subst this; rfl
  have hf0 : Far 1000 (Rd.mk (code.take 2000) 0) := ⟨by simp, by simp⟩
  generalize Rd.mk (code.take 2000) 0 = r0 at hf0 ⊢
  all_goals refine awpOps_cons (op_as rfl (Conv.of rfl) rfl) ?_
  all_goals refine awpOps_nil ?_
  all_goals refine awp_seq (awp_region (id := 2) ?_)
  all_goals refine awpOps_cons (op_mv rfl (Conv.of rfl) rfl) ?_
  refine awpOps_callE (ι := Nod × Wrld × Rd) [(0, .cell r0)] (fun i => .tup [.v i.1, .v i.2.1]) (fun i => [(0, .cell i.2.2)]) (fun i => Ln i.1 ∧ FineX i.2.1 ∧ Far 21000 i.2.2) rfl fb97 (.cons rfl (Conv.of rfl) (.nil _)) (l72Node_ct r0 hf0) (fun r h' ⟨n, w, r', e1, e2, e3, e4, e5⟩ => ⟨(n, w, r'), e1, e2, e3, e4, e5⟩) (olsk rfl ols0) (oksk obOk_cell oks0) (argOb rfl rfl rfl argO0) rfl (fun i => rfl) (fun i => oksk obOk_cell oks0) (fun i o ho => by cases ho) ?_
  rintro ⟨n, w, r1⟩ ⟨hn, hw, hf1⟩
  simp only at hn hw hf1 ⊢
  have hv := voteD_p hf1 (by omega)
  have hf2 := voteD_far (m' := 21060) hf1 (by omega) (by omega)
  have hll := hw.lw.ll
  have hlc := hw.lw.lc
  all_goals refine awpOps_cons (op_mv rfl (Conv.of rfl) rfl) ?_
  all_goals refine awpOps_cons (op_ext rfl rfl rfl) ?_
  all_goals refine awpOps_cons (op_ext rfl rfl rfl) ?_
  all_goals refine awpOps_cons (op_alloc (o := 7) z41 rfl rfl) ?_
  all_goals refine awpOps_cons (op_alloc (o := 8) z29 rfl rfl) ?_
  all_goals refine awpOps_cons (op_st ty41 rfl rfl (Conv.of rfl) rfl) ?_
  all_goals refine awpOps_cons (op_st ty29 rfl rfl (Conv.of rfl) rfl) ?_
  all_goals refine awpOps_nil ?_
  all_goals refine awp_seq (awp_region (id := 3) ?_)
  all_goals refine awpOps_cons (op_mv rfl (Conv.of rfl) rfl) ?_
  all_goals refine awpOps_cons (op_callO fb98 (.cons rfl (Conv.of rfl) (.nil _)) (voteD_ct r1 (hf1.weak (by omega))) (olsk rfl ols0) (oksk (by exact obOk_cell) oks0) (oksk (by exact obOk_cell) oks0) rfl (argOb rfl rfl rfl argO0) (fun o ho => by cases ho) rfl) ?_
  all_goals refine awpOps_cons (op_alloc (o := 9) z48 rfl rfl) ?_
  all_goals refine awpOps_cons (op_st ty48 rfl rfl (Conv.of rfl) rfl) ?_
  all_goals refine awpOps_nil ?_
  generalize (voteDF r1).1 = v at hv ⊢
  generalize (voteDF r1).2 = r2 at hf2 hv ⊢
  have hv8 : v.chain.length ≤ 30 := by omega
  clear hv
  have hk1 := pk_bd hf2 (by omega) 3
  have hf3 : Far 21061 (nx r2 1) := hf2.nx (by omega) (by omega)
  refine awp_seq_ex (ι := Vote × Rd) (fun i => mkSt 70 [(4, .box 0 (IsLens.whole Rd)), (2, .box 5 (IsLens.whole Nod)), (3, .box 6 (IsLens.whole Vote)), (5, .box 7 (IsLens.whole Nod)), (7, .box 9 (IsLens.whole Vote))] [(0, .cell i.2), (5, .cell Nod.zero), (6, .cell Vote.zero), (7, .cell n), (9, .cell i.1)]) (fun i => i.1.chain.length ≤ 30 ∧ Far 21062 i.2) ?_ ?_
  · all_goals refine awp_seq (awp_region (id := 4) ?_)
    all_goals refine awpOps_cons (op_fab f29_2 rfl rfl) ?_
    all_goals refine awpOps_cons (op_ld ty27 rfl rfl rfl) ?_
    all_goals refine awpOps_cons (op_len sl27 rfl rfl) ?_
    all_goals refine awpOps_cons (op_gtr rfl rfl rfl) ?_
    all_goals refine awpOps_cons (op_mv rfl (Conv.of rfl) rfl) ?_
    all_goals refine g_split (t := 21) rfl (fun h => ?_) (fun h => ?_)
    all_goals first | refine awpOps_cons (g_off rfl rfl rfl rfl rfl) ?_ | refine awpOps_cons (g_on rfl rfl rfl (op_mv rfl (Conv.of rfl) rfl)) ?_
    all_goals first | refine awpOps_cons (g_off rfl rfl rfl rfl rfl) ?_ | refine awpOps_cons (g_on rfl rfl rfl (op_callO fb54 (.cons rfl (Conv.of rfl) (.cons rfl (Conv.of rfl) (.nil _))) (pick_ct r2 3 (by unfold Far at hf2; omega)) (olsk rfl ols0) (oksk (by exact obOk_cell) oks0) (oksk (by exact obOk_cell) oks0) rfl (argOb rfl rfl rfl (argOk' rfl rfl argO0)) (fun o ho => by cases ho) rfl)) ?_
    all_goals first | refine awpOps_cons (g_off rfl rfl rfl rfl rfl) ?_ | refine awpOps_cons (g_on rfl rfl rfl (op_gtr rfl rfl rfl)) ?_
    all_goals refine awpOps_cons (op_pick rfl rfl rfl rfl) ?_
    all_goals refine awpOps_nil ?_
    · refine awp_cond rfl (fun h2 => ?_) (fun h2 => ?_)
      · have hlg : 0 < w.log.length := by have h0 : (w.log.length : Int) > 0 := of_decide_eq_true h; omega
        have hk2 := pk_bd hf3 (by omega) (w.log.length : Int)
        have hk3 := hk2.2 (by omega)
        have hx : w.log[(pk (nx r2 1) (w.log.length : Int)).toNat]? = some (w.log[(pk (nx r2 1) (w.log.length : Int)).toNat]'(by omega)) := List.getElem?_eq_getElem (by omega)
        generalize w.log[(pk (nx r2 1) (w.log.length : Int)).toNat]'(by omega) = u at hx
        have huc := hlc u (List.mem_of_getElem? hx)
        all_goals refine dr_start (id := 5) ?_
        all_goals refine dr_cons (op_fab f29_2 rfl rfl) ?_
        all_goals refine dr_cons (op_ld ty27 rfl rfl rfl) ?_
        all_goals refine dr_cons (op_mv rfl (Conv.of rfl) rfl) ?_
        all_goals refine dr_cons (op_fab f29_2 rfl rfl) ?_
        all_goals refine dr_cons (op_ld ty27 rfl rfl rfl) ?_
        all_goals refine dr_cons (op_len sl27 rfl rfl) ?_
        all_goals refine dr_cons (op_callO fb54 (.cons rfl (Conv.of rfl) (.cons rfl (Conv.of rfl) (.nil _))) (pick_ct (nx r2 1) (w.log.length : Int) (by unfold Far at hf3; omega)) (olsk rfl ols0) (oksk (by exact obOk_cell) oks0) (oksk (by exact obOk_cell) oks0) rfl (argOb rfl rfl rfl (argOk' rfl rfl argO0)) (fun o ho => by cases ho) rfl) ?_
        all_goals refine dr_cons (op_ix sl27 rfl rfl rfl hk2.1 hx) ?_
        all_goals refine dr_cons (op_ldr ty48 rfl rfl) ?_
        all_goals refine dr_cons (op_st ty48 rfl rfl (Conv.of rfl) rfl) ?_
        all_goals refine dr_nil mixed rfl ?_
        exact nx_seq ⟨(u, nx (nx r2 1) 1), ⟨huc, hf3.nx (by omega) (by omega)⟩, Le.mk rfl (tlb rfl rfl rfl (tlb rfl rfl rfl (tlb rfl rfl rfl (tlb rfl rfl rfl (tlb rfl rfl rfl tln))))) (olk rfl (by exact obOk_cell) (olk rfl (by exact obOk_cell) (olk rfl (by exact obOk_cell) (olk rfl (by exact obOk_cell) (olk rfl (by exact obOk_cell) oln))))) noS⟩
      · refine awp_skip ?_
        exact nx_seq ⟨(v, nx r2 1), ⟨hv8, hf3.weak (by omega)⟩, Le.mk rfl (tlb rfl rfl rfl (tlb rfl rfl rfl (tlb rfl rfl rfl (tlb rfl rfl rfl (tlb rfl rfl rfl tln))))) (olk rfl (by exact obOk_cell) (olk rfl (by exact obOk_cell) (olk rfl (by exact obOk_cell) (olk rfl (by exact obOk_cell) (olk rfl (by exact obOk_cell) oln))))) noS⟩
    · refine awp_cond rfl (fun h2 => absurd h2 (by decide)) (fun h2 => ?_)
      refine awp_skip ?_
      exact nx_seq ⟨(v, r2), ⟨hv8, hf2.weak (by omega)⟩, Le.mk rfl (tlb rfl rfl rfl (tlb rfl rfl rfl (tlb rfl rfl rfl (tlb rfl rfl rfl (tlb rfl rfl rfl tln))))) (olk rfl (by exact obOk_cell) (olk rfl (by exact obOk_cell) (olk rfl (by exact obOk_cell) (olk rfl (by exact obOk_cell) (olk rfl (by exact obOk_cell) oln))))) noS⟩
  · rintro ⟨u, r3⟩ ⟨hu, hf4⟩
    simp only at hu hf4 ⊢
    have hf5 : Far 21063 (nx r3 1) := hf4.nx (by omega) (by omega)
    refine awp_seq_ex (ι := Nod × Vote) (fun i => mkSt 70 [(2, .box 5 (IsLens.whole Nod)), (3, .box 6 (IsLens.whole Vote)), (5, .box 7 (IsLens.whole Nod)), (7, .box 9 (IsLens.whole Vote))] [(5, .cell Nod.zero), (6, .cell Vote.zero), (7, .cell i.1), (9, .cell i.2)]) (fun i => Ln i.1 ∧ i.2.chain.length ≤ 1000) ?_ ?_
    · refine awp_seq_to (s' := mkSt 70 [(4, .box 0 (IsLens.whole Rd)), (2, .box 5 (IsLens.whole Nod)), (3, .box 6 (IsLens.whole Vote)), (5, .box 7 (IsLens.whole Nod)), (7, .box 9 (IsLens.whole Vote)), (46, .v (decide (pk r3 2 = 0) && nodeOk n && decide (n.epoch < 30)))] [(0, .cell (nx r3 1)), (5, .cell Nod.zero), (6, .cell Vote.zero), (7, .cell n), (9, .cell u)]) ?_ ?_
      · all_goals refine awp_region (id := 6) ?_
        all_goals refine awpOps_cons (op_mv rfl (Conv.of rfl) rfl) ?_
        all_goals refine awpOps_cons (op_callO fb54 (.cons rfl (Conv.of rfl) (.cons rfl (Conv.of rfl) (.nil _))) (pick_ct r3 2 (by unfold Far at hf4; omega)) (olsk rfl ols0) (oksk (by exact obOk_cell) oks0) (oksk (by exact obOk_cell) oks0) rfl (argOb rfl rfl rfl (argOk' rfl rfl argO0)) (fun o ho => by cases ho) rfl) ?_
        all_goals refine awpOps_cons (op_eql rfl rfl rfl) ?_
        all_goals refine awpOps_cons (op_mv rfl (Conv.of rfl) rfl) ?_
        all_goals refine g_split (t := 38) rfl (fun h => ?_) (fun h => ?_)
        all_goals first | refine awpOps_cons (g_off rfl rfl rfl rfl rfl) ?_ | refine awpOps_cons (g_on rfl rfl rfl (op_ld ty41 rfl rfl rfl)) ?_
        all_goals first | refine awpOps_cons (g_off rfl rfl rfl rfl rfl) ?_ | refine awpOps_cons (g_on rfl rfl rfl (op_call fb42 (.cons rfl (Conv.of rfl) (.nil _)) (sNodeOk_ct n) (argOk rfl rfl argOk0) rfl rfl)) ?_
        all_goals refine awpOps_cons (op_pick rfl rfl rfl rfl) ?_
        all_goals refine awpOps_cons (op_mv rfl (Conv.of rfl) rfl) ?_
        all_goals first | refine g_lit (t := 42) (b := false) rfl ?_ | refine g_split (t := 42) rfl (fun h => ?_) (fun h => ?_)
        all_goals first | refine awpOps_cons (g_off rfl rfl rfl rfl rfl) ?_ | refine awpOps_cons (g_on rfl rfl rfl (op_fab f41_1 rfl rfl)) ?_
        all_goals first | refine awpOps_cons (g_off rfl rfl rfl rfl rfl) ?_ | refine awpOps_cons (g_on rfl rfl rfl (op_ld ty3 rfl rfl rfl)) ?_
        all_goals first | refine awpOps_cons (g_off rfl rfl rfl rfl rfl) ?_ | refine awpOps_cons (g_on rfl rfl rfl (op_lss rfl rfl rfl)) ?_
        all_goals refine awpOps_cons (op_pick rfl rfl rfl rfl) ?_
        all_goals refine awpOps_nil ?_
        all_goals exact Le.mk rfl (tlb rfl rfl rfl (tlb rfl rfl rfl (tlb rfl rfl rfl (tlb rfl rfl rfl (tlb rfl rfl rfl (tle rfl (by (have e1 : ∀ b : Bool, Enc.dis b = b := fun _ => rfl; show AV.v _ = AV.v _; simp_all; try omega)) rfl tln)))))) (olk rfl (by exact obOk_cell) (olk rfl (by exact obOk_cell) (olk rfl (by exact obOk_cell) (olk rfl (by exact obOk_cell) (olk rfl (by exact obOk_cell) oln))))) noS
      refine awp_cond rfl (fun h2 => ?_) (fun h2 => ?_)
      · have hlt : n.epoch < 30 := by simp at h2; exact h2.2
        have hep := hn.ep
        have hep2 : (enterF n (n.epoch + 1)).epoch = n.epoch + 1 := by unfold enterF; rw [if_pos (by simp [within]; omega)]
        have hse : (enterF n (n.epoch + 1)).seen = n.seen := by unfold enterF; split <;> rfl
        all_goals refine awp_seq (awp_region (id := 7) ?_)
        all_goals refine awpOps_cons (op_ld ty41 rfl rfl rfl) ?_
        all_goals refine awpOps_cons (op_fab f41_1 rfl rfl) ?_
        all_goals refine awpOps_cons (op_ld ty3 rfl rfl rfl) ?_
        all_goals refine awpOps_cons (op_add rfl rfl rfl (by omega)) ?_
        all_goals refine awpOps_cons (op_call fb99 (.cons rfl (Conv.of rfl) (.cons rfl (Conv.of rfl) (.nil _))) (l12EnterP_ct n (n.epoch + 1) hn.ep) (argOk rfl rfl (argOk rfl rfl argOk0)) rfl rfl) ?_
        all_goals refine awpOps_cons (op_st ty41 rfl rfl (Conv.of rfl) rfl) ?_
        all_goals refine awpOps_nil ?_
        have hm : Ln (enterF n (n.epoch + 1)) := ⟨by omega, by rw [hse]; exact hn.sl, by rw [hse]; exact hn.sc⟩
        generalize enterF n (n.epoch + 1) = m at hm ⊢
        have hmep := hm.ep
        have hmsl := hm.sl
        have htl := tipS_len hm.sc
        all_goals refine dr_start (id := 8) ?_
        all_goals refine dr_cons (op_fab f41_1 rfl rfl) ?_
        all_goals refine dr_cons (op_ld ty3 rfl rfl rfl) ?_
        all_goals refine dr_cons (op_call fb79 (.cons rfl (Conv.of rfl) (.nil _)) (l3Leader_ct m.epoch (by omega)) (argOk rfl rfl argOk0) rfl rfl) ?_
        all_goals refine dr_cons (op_fab f41_3 rfl rfl) ?_
        all_goals refine dr_cons (op_ld ty27 rfl rfl rfl) ?_
        all_goals refine dr_cons (op_call fb101 (.cons rfl (Conv.of rfl) (.nil _)) (l11Tip_ct m.seen (by omega) (fun v hv => Nat.le_trans (hm.sc v hv) (by decide))) (argOk rfl rfl argOk0) rfl rfl) ?_
        all_goals refine dr_cons (op_call fb100 (.cons rfl (Conv.of rfl) (.nil _)) (l1Copy_ct (tipOfS m.seen) (by omega)) (argOk rfl rfl argOk0) rfl rfl) ?_
        all_goals refine dr_cons (op_fab f41_1 rfl rfl) ?_
        all_goals refine dr_cons (op_ld ty3 rfl rfl rfl) ?_
        all_goals refine dr_cons (op_mv rfl (Conv.of rfl) rfl) ?_
        all_goals refine dr_cons (op_callO fb87 (.cons rfl (Conv.of rfl) (.nil _)) (l71Pay_ct (nx r3 1) (hf5.weak (by omega))) (olsk rfl ols0) (oksk (by exact obOk_cell) oks0) (oksk (by exact obOk_cell) oks0) rfl (argOb rfl rfl rfl argO0) (fun o ho => by cases ho) rfl) ?_
        all_goals refine dr_cons (op_build (.cons f60_0 rfl (Conv.of rfl) (.cons f60_1 rfl (Conv.of rfl) (.nil _))) z60 rfl pl60 rfl) ?_
        all_goals refine dr_cons (op_bsl sl34 z60 (.cons rfl (Conv.of rfl) (.nil _)) rfl (by decide) rfl) ?_
        all_goals refine dr_cons (op_app sl34 z60 ul34 rfl rfl rfl (by (simp; omega)) (by (simp; omega)) rfl rfl) ?_
        all_goals refine dr_cons (op_build (.cons f48_0 rfl (Conv.of rfl) (.cons f48_1 rfl (Conv.ol) (.nil _))) z48 rfl pl48 rfl) ?_
        all_goals refine dr_cons (op_st ty48 rfl rfl (Conv.of rfl) rfl) ?_
        all_goals refine dr_nil mixed rfl ?_
        exact nx_seq ⟨(m, ⟨leadS m.epoch, tipOfS m.seen ++ [⟨m.epoch, payV (nx r3 1)⟩]⟩), ⟨hm, by simp; omega⟩, Le.mk rfl (tlb rfl rfl rfl (tlb rfl rfl rfl (tlb rfl rfl rfl (tlb rfl rfl rfl tln)))) (olk rfl (by exact obOk_cell) (olk rfl (by exact obOk_cell) (olk rfl (by exact obOk_cell) (olk rfl (by exact obOk_cell) oln)))) noS⟩
      · refine awp_skip ?_
        exact nx_seq ⟨(n, u), ⟨hn, by show u.chain.length ≤ 1000; omega⟩, Le.mk rfl (tlb rfl rfl rfl (tlb rfl rfl rfl (tlb rfl rfl rfl (tlb rfl rfl rfl tln)))) (olk rfl (by exact obOk_cell) (olk rfl (by exact obOk_cell) (olk rfl (by exact obOk_cell) (olk rfl (by exact obOk_cell) oln)))) noS⟩
    · rintro ⟨m, u2⟩ ⟨hm, hu2⟩
      simp only at hm hu2 ⊢
      all_goals refine awp_seq (dr_start (id := 9) ?_)
      all_goals refine dr_cons (op_ld ty41 rfl rfl rfl) ?_
      all_goals refine dr_cons (op_ld ty48 rfl rfl rfl) ?_
      all_goals refine dr_cons (op_call fb102 (.cons rfl (Conv.of rfl) (.nil _)) (l3VoteCopy_ct u2 (by omega)) (argOk rfl rfl argOk0) rfl rfl) ?_
      all_goals refine dr_cons (op_st ty41 rfl rfl (Conv.of rfl) rfl) ?_
      all_goals refine dr_cons (op_st ty48 rfl rfl (Conv.of rfl) rfl) ?_
      all_goals refine dr_nil mixed rfl ?_
      refine awp_ret ?_
      repeat first | refine rt_seq ?_ | refine rt_block ?_
      exact ⟨_, _, resN (ol := []) (.cons (.rc ty41 rfl rfl) (.cons (.rc ty48 rfl rfl) .nil)) rfl (fun o ho => absurd (show o ∈ ([] : List Nat) from ho) (by simp)) oln noS, _, _, rfl, rfl, hm, hu2⟩
end Go.Proofs.YtmdhfalfppkpeaaGreat

/- A law: who has seen more holds as much for final. -/
set_option linter.unusedVariables false
set_option linter.unusedSimpArgs false
namespace Go.Proofs.YtmdhfalfppkpeaaGreat
open Go Go.Wt
set_option maxHeartbeats 4000000 in
theorem FnNodeMore_ct (code : List UInt8) : CtP Tryz.prog 8 [.v code] (.v true) := by
  refine Ct.intro Tryz.func8 rfl rfl ?_
  all_goals refine awp_seq (awp_region (id := 0) ?_)
  all_goals refine awpOps_cons (op_as rfl (Conv.of rfl) rfl) ?_
  all_goals refine awpOps_nil ?_
  all_goals refine awp_seq (awp_seq (awp_region (id := 1) ?_))
  all_goals refine awpOps_cons (op_mv rfl (Conv.of rfl) rfl) ?_
  all_goals refine awpOps_cons (op_len sl22 rfl rfl) ?_
  all_goals refine awpOps_cons (op_gtr rfl rfl rfl) ?_
  all_goals refine awpOps_nil ?_
  refine awp_cond rfl (fun h => ?_) (fun h => ?_)
  · all_goals refine awp_seq (awp_region (id := 2) ?_)
    all_goals refine awpOps_cons (op_as rfl (Conv.of rfl) rfl) ?_
    all_goals refine awpOps_nil ?_
    refine awp_ret ?_
    repeat first | refine rt_seq ?_ | refine rt_block ?_
    exact finP (.v rfl (Conv.of rfl)) rfl rfl
  refine awp_skip ?_
  all_goals refine awp_seq (awp_region (id := 3) ?_)
  all_goals refine awpOps_cons (op_mv rfl (Conv.of rfl) rfl) ?_
  refine awpOps_callE (ι := Nod × Vote) [] (fun i => .tup [.v i.1, .v i.2]) (fun _ => []) (fun i => Ln i.1 ∧ i.2.chain.length ≤ 1000) rfl fb37 (.cons rfl (Conv.of rfl) (.nil _)) (drawNodeHear_ct code) (fun r h' ⟨n, v, e1, e2, e3, e4⟩ => ⟨(n, v), e1, e2, e3, e4⟩) ols0 oks0 (argOk' rfl rfl argO0) rfl (fun _ => rfl) (fun _ => oks0) (fun _ o ho => by cases ho) ?_
  rintro ⟨n, v⟩ ⟨hn, hv⟩
  simp only at hn hv ⊢
  all_goals refine awpOps_cons (op_mv rfl (Conv.of rfl) rfl) ?_
  all_goals refine awpOps_cons (op_ext rfl rfl rfl) ?_
  all_goals refine awpOps_cons (op_ext rfl rfl rfl) ?_
  all_goals refine awpOps_cons (op_alloc (o := 0) z41 rfl rfl) ?_
  all_goals refine awpOps_cons (op_alloc (o := 1) z48 rfl rfl) ?_
  all_goals refine awpOps_cons (op_st ty41 rfl rfl (Conv.of rfl) rfl) ?_
  all_goals refine awpOps_cons (op_st ty48 rfl rfl (Conv.of rfl) rfl) ?_
  all_goals refine awpOps_nil ?_
  all_goals refine awp_seq (awp_region (id := 4) ?_)
  all_goals refine awpOps_cons (op_ld ty41 rfl rfl rfl) ?_
  all_goals refine awpOps_cons (op_ld ty48 rfl rfl rfl) ?_
  all_goals refine awpOps_cons (op_call fb38 (.cons rfl (Conv.of rfl) (.cons rfl (Conv.of rfl) (.nil _))) (sNodeHear_ct n v (by omega)) (argOk rfl rfl (argOk rfl rfl argOk0)) rfl rfl) ?_
  all_goals refine awpOps_cons (op_mv rfl (Conv.of rfl) rfl) ?_
  all_goals refine awpOps_cons (op_ext rfl rfl rfl) ?_
  all_goals refine awpOps_cons (op_ext rfl rfl rfl) ?_
  all_goals refine awpOps_cons (op_ext rfl rfl rfl) ?_
  all_goals refine awpOps_cons (op_alloc (o := 2) z41 rfl rfl) ?_
  all_goals refine awpOps_cons (op_alloc (o := 3) z48 rfl rfl) ?_
  all_goals refine awpOps_cons (op_st ty41 rfl rfl (Conv.of rfl) rfl) ?_
  all_goals refine awpOps_cons (op_st ty48 rfl rfl (Conv.of rfl) rfl) ?_
  all_goals refine awpOps_cons (op_as rfl (Conv.of rfl) rfl) ?_
  all_goals refine awpOps_nil ?_
  all_goals refine awp_seq (awp_region (id := 5) ?_)
  all_goals refine awpOps_cons (op_ld ty41 rfl rfl rfl) ?_
  all_goals refine awpOps_cons (op_ld ty48 rfl rfl rfl) ?_
  all_goals refine awpOps_cons (op_call fb39 (.cons rfl (Conv.of rfl) (.cons rfl (Conv.of rfl) (.nil _))) (nodeHear_ct n v) (argOk rfl rfl (argOk rfl rfl argOk0)) rfl rfl) ?_
  all_goals refine awpOps_cons (op_mv rfl (Conv.of rfl) rfl) ?_
  all_goals refine awpOps_cons (op_ext rfl rfl rfl) ?_
  all_goals refine awpOps_cons (op_ext rfl rfl rfl) ?_
  all_goals refine awpOps_cons (op_ext rfl rfl rfl) ?_
  all_goals refine awpOps_cons (op_alloc (o := 4) z41 rfl rfl) ?_
  all_goals refine awpOps_cons (op_alloc (o := 6) z48 rfl rfl) ?_
  all_goals refine awpOps_cons (op_st ty41 rfl rfl (Conv.of rfl) rfl) ?_
  all_goals refine awpOps_cons (op_st ty48 rfl rfl (Conv.of rfl) rfl) ?_
  all_goals refine awpOps_cons (op_as rfl (Conv.of rfl) rfl) ?_
  all_goals refine awpOps_nil ?_
  refine awp_seq (awp_seq_to (s' := mkSt 94 [(3, .box 0 (IsLens.whole Nod)), (4, .box 1 (IsLens.whole Vote)), (5, .box 2 (IsLens.whole Nod)), (6, .box 3 (IsLens.whole Vote)), (7, .v (nodeHearR n v).2.2), (8, .box 4 (IsLens.whole Nod)), (9, .box 6 (IsLens.whole Vote)), (10, .v (nodeHearR n v).2.2), (53, .v (!nodeOk n))] [(0, .cell n), (1, .cell v), (2, .cell (nodeHearR n v).1), (3, .cell (nodeHearR n v).2.1), (4, .cell (nodeHearR n v).1), (6, .cell (nodeHearR n v).2.1)]) ?_ ?_)
  · all_goals refine awp_region (id := 6) ?_
    all_goals refine awpOps_cons (op_mv rfl (Conv.of rfl) rfl) ?_
    all_goals refine awpOps_cons (op_mv rfl (Conv.of rfl) rfl) ?_
    all_goals refine awpOps_cons (op_bneq ub4 rfl rfl rfl) ?_
    all_goals refine awpOps_cons (op_mv rfl (Conv.of rfl) rfl) ?_
    all_goals refine g_split (t := 37) rfl (fun h => ?_) (fun h => ?_)
    all_goals first | refine awpOps_cons (g_off rfl rfl rfl rfl rfl) ?_ | refine awpOps_cons (g_on rfl rfl rfl (op_ld ty41 rfl rfl rfl)) ?_
    all_goals first | refine awpOps_cons (g_off rfl rfl rfl rfl rfl) ?_ | refine awpOps_cons (g_on rfl rfl rfl (op_ld ty41 rfl rfl rfl)) ?_
    all_goals first | refine awpOps_cons (g_off rfl rfl rfl rfl rfl) ?_ | refine awpOps_cons (g_on rfl rfl rfl (op_call fb40 (.cons rfl (Conv.of rfl) (.cons rfl (Conv.of rfl) (.nil _))) (lwNode_ct _ _) (argOk rfl rfl (argOk rfl rfl argOk0)) rfl rfl)) ?_
    all_goals first | refine awpOps_cons (g_off rfl rfl rfl rfl rfl) ?_ | refine awpOps_cons (g_on rfl rfl rfl (op_not rfl rfl)) ?_
    all_goals refine awpOps_cons (op_pick rfl rfl rfl rfl) ?_
    all_goals refine awpOps_cons (op_mv rfl (Conv.of rfl) rfl) ?_
    all_goals first | refine g_lit (t := 43) (b := true) rfl ?_ | refine g_split (t := 43) rfl (fun h => ?_) (fun h => ?_)
    all_goals first | refine awpOps_cons (g_off rfl rfl rfl rfl rfl) ?_ | refine awpOps_cons (g_on rfl rfl rfl (op_ld ty48 rfl rfl rfl)) ?_
    all_goals first | refine awpOps_cons (g_off rfl rfl rfl rfl rfl) ?_ | refine awpOps_cons (g_on rfl rfl rfl (op_ld ty48 rfl rfl rfl)) ?_
    all_goals first | refine awpOps_cons (g_off rfl rfl rfl rfl rfl) ?_ | refine awpOps_cons (g_on rfl rfl rfl (op_call fb41 (.cons rfl (Conv.of rfl) (.cons rfl (Conv.of rfl) (.nil _))) (lwVote_ct _ _) (argOk rfl rfl (argOk rfl rfl argOk0)) rfl rfl)) ?_
    all_goals first | refine awpOps_cons (g_off rfl rfl rfl rfl rfl) ?_ | refine awpOps_cons (g_on rfl rfl rfl (op_not rfl rfl)) ?_
    all_goals refine awpOps_cons (op_pick rfl rfl rfl rfl) ?_
    all_goals refine awpOps_cons (op_mv rfl (Conv.of rfl) rfl) ?_
    all_goals first | refine g_lit (t := 49) (b := true) rfl ?_ | refine g_split (t := 49) rfl (fun h => ?_) (fun h => ?_)
    all_goals first | refine awpOps_cons (g_off rfl rfl rfl rfl rfl) ?_ | refine awpOps_cons (g_on rfl rfl rfl (op_ld ty41 rfl rfl rfl)) ?_
    all_goals first | refine awpOps_cons (g_off rfl rfl rfl rfl rfl) ?_ | refine awpOps_cons (g_on rfl rfl rfl (op_call fb42 (.cons rfl (Conv.of rfl) (.nil _)) (sNodeOk_ct n) (argOk rfl rfl argOk0) rfl rfl)) ?_
    all_goals first | refine awpOps_cons (g_off rfl rfl rfl rfl rfl) ?_ | refine awpOps_cons (g_on rfl rfl rfl (op_not rfl rfl)) ?_
    all_goals refine awpOps_cons (op_pick rfl rfl rfl rfl) ?_
    all_goals refine awpOps_nil ?_
    all_goals exact Le.mk rfl (tlb rfl rfl rfl (tlb rfl rfl rfl (tlb rfl rfl rfl (tlb rfl rfl rfl (tle rfl (rfl) rfl (tlb rfl rfl rfl (tlb rfl rfl rfl (tle rfl (rfl) rfl (tle rfl (by first | rfl | (have e1 : ∀ b : Bool, Enc.dis b = b := fun _ => rfl; have e2 : ∀ y : Nod, Enc.dis y = y := fun _ => rfl; have e3 : ∀ y : Vote, Enc.dis y = y := fun _ => rfl; show AV.v _ = AV.v _; simp_all; try (rw [Bool.eq_iff_iff]; simp))) rfl tln))))))))) (olk rfl (by exact obOk_cell) (olk rfl (by exact obOk_cell) (olk rfl (by exact obOk_cell) (olk rfl (by exact obOk_cell) (olk rfl (by exact obOk_cell) (olk rfl (by exact obOk_cell) oln)))))) noS
  refine awp_cond rfl (fun h => ?_) (fun h => ?_)
  · all_goals refine awp_seq (awp_region (id := 7) ?_)
    all_goals refine awpOps_cons (op_mv rfl (Conv.of rfl) rfl) ?_
    all_goals refine awpOps_cons (op_mv rfl (Conv.of rfl) rfl) ?_
    all_goals refine awpOps_cons (op_beql ub4 rfl rfl rfl) ?_
    all_goals refine awpOps_cons (op_mv rfl (Conv.of rfl) rfl) ?_
    all_goals refine g_split (t := 57) rfl (fun h => ?_) (fun h => ?_)
    all_goals first | refine awpOps_cons (g_off rfl rfl rfl rfl rfl) ?_ | refine awpOps_cons (g_on rfl rfl rfl (op_ld ty41 rfl rfl rfl)) ?_
    all_goals first | refine awpOps_cons (g_off rfl rfl rfl rfl rfl) ?_ | refine awpOps_cons (g_on rfl rfl rfl (op_ld ty41 rfl rfl rfl)) ?_
    all_goals first | refine awpOps_cons (g_off rfl rfl rfl rfl rfl) ?_ | refine awpOps_cons (g_on rfl rfl rfl (op_call fb40 (.cons rfl (Conv.of rfl) (.cons rfl (Conv.of rfl) (.nil _))) (lwNode_ct _ _) (argOk rfl rfl (argOk rfl rfl argOk0)) rfl rfl)) ?_
    all_goals refine awpOps_cons (op_pick rfl rfl rfl rfl) ?_
    all_goals refine awpOps_cons (op_mv rfl (Conv.of rfl) rfl) ?_
    all_goals first | refine g_lit (t := 62) (b := false) rfl ?_ | refine g_split (t := 62) rfl (fun h => ?_) (fun h => ?_)
    all_goals first | refine awpOps_cons (g_off rfl rfl rfl rfl rfl) ?_ | refine awpOps_cons (g_on rfl rfl rfl (op_ld ty48 rfl rfl rfl)) ?_
    all_goals first | refine awpOps_cons (g_off rfl rfl rfl rfl rfl) ?_ | refine awpOps_cons (g_on rfl rfl rfl (op_ld ty48 rfl rfl rfl)) ?_
    all_goals first | refine awpOps_cons (g_off rfl rfl rfl rfl rfl) ?_ | refine awpOps_cons (g_on rfl rfl rfl (op_call fb41 (.cons rfl (Conv.of rfl) (.cons rfl (Conv.of rfl) (.nil _))) (lwVote_ct _ _) (argOk rfl rfl (argOk rfl rfl argOk0)) rfl rfl)) ?_
    all_goals refine awpOps_cons (op_pick rfl rfl rfl rfl) ?_
    all_goals refine awpOps_cons (op_as rfl (Conv.of rfl) rfl) ?_
    all_goals refine awpOps_nil ?_
    all_goals refine awp_ret ?_
    all_goals refine finP (.v rfl (Conv.of rfl)) rfl ?_
    all_goals simp_all [FV.av]
  have hno : nodeOk n = true := not_f h
  have hR : nodeHearR n v = hearF n v := by unfold nodeHearR; rw [if_pos hno]
  rw [hR]
  have hxo := (hearF_ok v hno).1
  have hsub : ∀ u ∈ n.seen, u ∈ (hearF n v).1.seen := by
    obtain ⟨N, hN, _⟩ := (NS.hear n v).seen
    intro u hu; rw [hN]; exact List.mem_append_left _ hu
  generalize (hearF n v).1 = x at hxo hsub
  generalize (hearF n v).2.1 = y
  generalize (hearF n v).2.2 = b
  have hs1 := nodeOk_seen hno
  have hs2 := nodeOk_seen hxo
  have hfm := final_mono_len hsub
  have htm := tip_mono hsub
  have heo := enterF_ok (e := 30) hno
  have hes : (enterF n 30).seen = n.seen := by unfold enterF; split <;> rfl
  have k1 := nodeBook_ct (enterF n 30) heo
  rw [hes] at k1
  have k2 := nodeBook_ct n hno
  have k3 := lwInts_ct (bookF (finalOf n.seen)) (bookF (finalOf n.seen))
  rw [show decide (bookF (finalOf n.seen) = bookF (finalOf n.seen)) = true from decide_eq_true rfl] at k3
  refine awp_skip ?_
  all_goals refine awp_seq (awp_region (id := 8) ?_)
  all_goals refine awpOps_cons (op_fab f41_3 rfl rfl) ?_
  all_goals refine awpOps_cons (op_ld ty27 rfl rfl rfl) ?_
  all_goals refine awpOps_cons (op_call fb20 (.cons rfl (Conv.of rfl) (.nil _)) (treeFinal_ct _ hs1.1 (by omega)) (argOk rfl rfl argOk0) rfl rfl) ?_
  all_goals refine awpOps_cons (op_as rfl (Conv.of rfl) rfl) ?_
  all_goals refine awpOps_nil ?_
  all_goals refine awp_seq (dr_start (id := 9) ?_)
  all_goals refine dr_cons (op_fab f41_3 rfl rfl) ?_
  all_goals refine dr_cons (op_ld ty27 rfl rfl rfl) ?_
  all_goals refine dr_cons (op_call fb20 (.cons rfl (Conv.of rfl) (.nil _)) (treeFinal_ct _ hs2.1 (by omega)) (argOk rfl rfl argOk0) rfl rfl) ?_
  all_goals refine dr_cons (op_len sl34 rfl rfl) ?_
  all_goals refine dr_cons (op_mv rfl (Conv.of rfl) rfl) ?_
  all_goals refine dr_cons (op_len sl34 rfl rfl) ?_
  all_goals refine dr_cons (op_geq rfl rfl rfl) ?_
  all_goals refine dr_cons (op_mv rfl (Conv.of rfl) rfl) ?_
  all_goals refine dr_split (t := 77) rfl (fun h => ?_) (fun h => ?_)
  all_goals first | refine dr_cons (g_off rfl rfl rfl rfl rfl) ?_ | refine dr_cons (g_on rfl rfl rfl (op_ld ty41 rfl rfl rfl)) ?_
  all_goals first | refine dr_cons (g_off rfl rfl rfl rfl rfl) ?_ | refine dr_cons (g_on rfl rfl rfl (op_call fb44 (.cons rfl (Conv.of rfl) (.cons rfl (Conv.of rfl) (.nil _))) (nodeEnter_ct n 30 hno) (argOk rfl rfl (argOk rfl rfl argOk0)) rfl rfl)) ?_
  all_goals first | refine dr_cons (g_off rfl rfl rfl rfl rfl) ?_ | refine dr_cons (g_on rfl rfl rfl (op_call fb32 (.cons rfl (Conv.of rfl) (.nil _)) (k1) (argOk rfl rfl argOk0) rfl rfl)) ?_
  all_goals first | refine dr_cons (g_off rfl rfl rfl rfl rfl) ?_ | refine dr_cons (g_on rfl rfl rfl (op_ld ty41 rfl rfl rfl)) ?_
  all_goals first | refine dr_cons (g_off rfl rfl rfl rfl rfl) ?_ | refine dr_cons (g_on rfl rfl rfl (op_call fb32 (.cons rfl (Conv.of rfl) (.nil _)) (k2) (argOk rfl rfl argOk0) rfl rfl)) ?_
  all_goals first | refine dr_cons (g_off rfl rfl rfl rfl rfl) ?_ | refine dr_cons (g_on rfl rfl rfl (op_call fb43 (.cons rfl (Conv.of rfl) (.cons rfl (Conv.of rfl) (.nil _))) (k3) (argOk rfl rfl (argOk rfl rfl argOk0)) rfl rfl)) ?_
  all_goals refine dr_cons (op_pick rfl rfl rfl rfl) ?_
  all_goals refine dr_cons (op_mv rfl (Conv.of rfl) rfl) ?_
  all_goals first | refine dr_lit (t := 85) (b := true) rfl ?_ | refine dr_lit (t := 85) (b := false) rfl ?_
  all_goals first | refine dr_cons (g_off rfl rfl rfl rfl rfl) ?_ | refine dr_cons (g_on rfl rfl rfl (op_fab f41_3 rfl rfl)) ?_
  all_goals first | refine dr_cons (g_off rfl rfl rfl rfl rfl) ?_ | refine dr_cons (g_on rfl rfl rfl (op_ld ty27 rfl rfl rfl)) ?_
  all_goals first | refine dr_cons (g_off rfl rfl rfl rfl rfl) ?_ | refine dr_cons (g_on rfl rfl rfl (op_call fb45 (.cons rfl (Conv.of rfl) (.nil _)) (treeLong_ct _ hs2.1 (by omega)) (argOk rfl rfl argOk0) rfl rfl)) ?_
  all_goals first | refine dr_cons (g_off rfl rfl rfl rfl rfl) ?_ | refine dr_cons (g_on rfl rfl rfl (op_fab f41_3 rfl rfl)) ?_
  all_goals first | refine dr_cons (g_off rfl rfl rfl rfl rfl) ?_ | refine dr_cons (g_on rfl rfl rfl (op_ld ty27 rfl rfl rfl)) ?_
  all_goals first | refine dr_cons (g_off rfl rfl rfl rfl rfl) ?_ | refine dr_cons (g_on rfl rfl rfl (op_call fb45 (.cons rfl (Conv.of rfl) (.nil _)) (treeLong_ct _ hs1.1 (by omega)) (argOk rfl rfl argOk0) rfl rfl)) ?_
  all_goals first | refine dr_cons (g_off rfl rfl rfl rfl rfl) ?_ | refine dr_cons (g_on rfl rfl rfl (op_geq rfl rfl rfl)) ?_
  all_goals refine dr_cons (op_pick rfl rfl rfl rfl) ?_
  all_goals refine dr_cons (op_as rfl (Conv.of rfl) rfl) ?_
  all_goals refine dr_nil mixed rfl ?_
  all_goals refine awp_ret ?_
  all_goals refine finP (.v rfl (Conv.of rfl)) rfl ?_
  all_goals simp_all [FV.av]
end Go.Proofs.YtmdhfalfppkpeaaGreat

/- The law FnNodeMore returns true at every input, and leaves its arguments as they were. No condition. -/
set_option linter.unusedVariables false
namespace Go.Proofs.YtmdhfalfppkpeaaGreat.fnNodeMore
open Go Go.ChangeShapes Go.WideShapes Go.ChangeAt Go.RowKit
theorem own : ownKnob Tryz.prog.godebug = none := by kernel_rfl
theorem laidOut : laidOutB Tryz.prog = true := by kernel_rfl
set_option maxRecDepth 100000 in
theorem lifted (os : Os) (started : os.Started) (H : Type) (enc : TypeId × Value → H) :
    ReturnsInHanded {} Tryz.checked os 8 .any (Rows.fnNodeMoreSpec.pre6 enc Tryz.prog Tryz.f8 Rows.fnNodeMoreRow.domain false) (Rows.fnNodeMoreSpec.post enc Tryz.prog Tryz.f8 false true false false) := by
  refine returnsInHanded_of_change_sized (C := Tryz.checked) own started (by kernel_rfl) Tryz.func8
    (ChangeSpec.witness6 (enc := enc) (C := Tryz.checked) false ⟨#[], #[.slice none 0 0], []⟩ 8 (by kernel_rfl) (by kernel_rfl) (by kernel_rfl) (by kernel_rfl)) ?_
  intro W base args ds gs before hval0 hW hcnd hsz0 _
  have hsz : (DataW.weightsEach Tryz.prog (Tryz.f8.params.toList ++ Rows.fnNodeMoreSpec.plain.varTypes Tryz.prog) (ds ++ gs)).all (· ≤ reachBytes) = true := hsz0
  have hval : ∀ (j : Nat) t v, Tryz.f8.params[j]? = some t → args[j]? = some v → Value.okWide Tryz.prog W .any base t v := hval0
  have hW' := hW
  obtain ⟨p, q, hA0, hV, rfl, hfz, hnd⟩ := hW
  have hA : DataW.TrodAll enc Tryz.prog W 0 (fun _ => true) true Tryz.f8.params.toList args.toList ds p := hA0
  rw [Tryz.params8] at hA hval hsz
  obtain ⟨v0, vs0, d0, ds0, p0, q0, hargs, rfl, rfl, h0, r0⟩ := trodAll_cons hA
  obtain ⟨rfl, rfl, rfl⟩ := trodAll_nil r0
  obtain rfl : args = #[v0] := by cases args; simp_all
  obtain ⟨rfl, rfl⟩ := trodVars_none hV
  obtain ⟨a0, len0, cap0, rfl⟩ := okWide_slice Tryz.underlying22 (hval 0 22 v0 rfl rfl)
  have k0 := h0
  have lt0 : ∀ x ∈ p0, x.block < W.heap.size := by obtain ⟨m, hm⟩ := k0; exact DataW.trod_lt m _ _ _ hm
  obtain ⟨z0, w0⟩ := Go.Wt.rowOf (fun _ => rfl) Tryz.underlying22 Tryz.underlying5 (by kernel_rfl) h0
  have y0 := Go.Wt.lenOf hsz (j := 0) (t := 22) rfl rfl Tryz.underlying22 Tryz.underlying5 (by kernel_rfl) (by kernel_rfl) h0
  clear hA0 hval0 hsz0 hsz
  refine (Go.Wt.row1 FnNodeMore_ct W w0 y0).mono fun e W' ⟨he, bel⟩ => ?_
  subst he
  exact ⟨_, rfl, _, _, _, [], _, [], hW', trodAll_mk1 (shut_bool Tryz.underlying4 _), (trodAll_cons_mk (Below.trod laidOut (by kernel_rfl) (of_decide_eq_true (by kernel_rfl)) k0 bel lt0) trodAll_mk0), rfl, bel.frame _, fun h => by cases h⟩
theorem over : Rows.fnNodeMoreRow.holds Tryz.pinned (OpenSpec.ofChange Rows.fnNodeMoreSpec) :=
  OpenClaim.holds_of_wide 8 Tryz.f8 rfl rfl rfl rfl rfl rfl rfl ⟨rfl, rfl, rfl, rfl, rfl⟩ rfl rfl rfl rfl rfl (by kernel_rfl) Tryz.func8 (by kernel_rfl)
    (of_decide_eq_true (by kernel_rfl)) (by unfold Func.isWrapper; first | (rw [if_pos (by decide +kernel)]; kernel_rfl) | (rw [if_neg (by decide +kernel)]; exact ⟨rfl, rfl⟩))
    (fun os started H enc _ => lifted os started H enc)
end Go.Proofs.YtmdhfalfppkpeaaGreat.fnNodeMore
namespace Go.Proofs.YtmdhfalfppkpeaaGreat
theorem fnNodeMore_holds : Rows.FnNodeMoreSaid := fnNodeMore.over
#print axioms fnNodeMore_holds
end Go.Proofs.YtmdhfalfppkpeaaGreat
