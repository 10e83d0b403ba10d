/- Part 4 of the proof: texts one behind the other. -/
import Derived.Test.YtmdhfalfppkpeaaGreatM3
import Derived.Laws.Small
import Derived.Below
import Derived.SizedLaws
import Derived.ChangeSlices
/- The reference: a node of a world proposes, or hears. -/
set_option linter.unusedVariables false
set_option linter.unusedSimpArgs false
namespace Go.Proofs.YtmdhfalfppkpeaaGreat
open Go Go.Wt
theorem l12Propose_w (n : Nod) (p : Pay) (h : nodeOk n = true) : CtP Tryz.prog 131 [.v (sN n), .v p] (res3S (proposeF n p)) := by
  obtain ⟨⟨h1, h2, h3, h4, h5⟩, h6⟩ := nodeOk_iff.1 h
  rw [← proposeS_eq p h5 h2]
  exact l12Propose_ct n p ⟨by omega, votesOk_mem h5⟩ h2
theorem l12Hear_w (n : Nod) (v : Vote) (h : nodeOk n = true) (hv : v.chain.length ≤ 1000000) : CtP Tryz.prog 103 [.v (sN n), .v v] (res3S (hearF n v)) := by
  obtain ⟨⟨h1, h2, h3, h4, h5⟩, h6⟩ := nodeOk_iff.1 h
  rw [← hearS_eq h5 h2]
  exact l12Hear_ct n v ⟨by omega, votesOk_mem h5⟩ h2 hv
abbrev so (w : Wrld) : List (Nat × Wt.Obj) := [(1, .arr (w.nodes.map sN))]
theorem sW_put (w : Wrld) (k : Nat) (x : Nod × Vote × Bool) : sW (if x.2.2 then sendF w x.2.1 else w) = sW (putF w k x) := by
  unfold putF
  cases x.2.2 with
  | false => rfl
  | true =>
    show sW (sendF w x.2.1) = sW (sendF _ x.2.1)
    unfold sendF
    simp only
    split <;> rfl
theorem put_nodes (w : Wrld) (k : Nat) (x : Nod × Vote × Bool) : (putF w k x).nodes = w.nodes.set k x.1 := by
  unfold putF
  split
  · unfold sendF; split <;> rfl
  · rfl
theorem set_sN (ns : List Nod) (k : Nat) (n : Nod) (y : NodS) : ((ns.map sN).set k y).set k (sN n) = (ns.set k n).map sN := by
  rw [List.set_set, List.map_set]
set_option maxHeartbeats 4000000 in
theorem l21Propose_ct (w : Wrld) (id : Int) (p : Pay) (hw : FineX w) : CtO Tryz.prog 78 [.v (sW w), .v id, .v p] (so w) (.v (sW (wproposeF w id p))) (so (wproposeF w id p)) := by
  have h4 := hw.four
  refine Ct.intro Tryz.func78 rfl rfl ?_
  all_goals refine awp_seq (awp_region (id := 0) ?_)
  all_goals refine awpOps_cons (op_boxm (o := 5) ty29_WrldS rfl rfl rfl rfl) ?_
  all_goals refine awpOps_cons (op_box (o := 6) ty58 rfl (Conv.of rfl) rfl rfl) ?_
  all_goals refine awpOps_cons (op_alloc (o := 7) z29_WrldS rfl rfl) ?_
  all_goals refine awpOps_nil ?_
  refine awp_seq (awp_seq_to (s' := mkSt 52 [(1, .v id), (3, .box 5 (IsLens.whole WrldS)), (5, .box 6 (IsLens.whole Pay)), (6, .box 7 (IsLens.whole WrldS)), (28, .v (!(within id 1 4 && !decide (id = w.bad) && payOk p && decide (w.log.length < 80))))] [(1, .arr (w.nodes.map sN)), (5, .cell (sW w)), (6, .cell p), (7, .cell WrldS.zero)]) ?_ ?_)
  · all_goals refine awp_region (id := 1) ?_
    all_goals refine awpOps_cons (op_mv rfl (Conv.of rfl) rfl) ?_
    all_goals refine awpOps_cons (op_call fb80 (.cons rfl (Conv.of rfl) (.cons rfl (Conv.of rfl) (.cons rfl (Conv.of rfl) (.nil _)))) (l6In_ct _ _ _) (argOk rfl rfl (argOk rfl rfl (argOk rfl rfl argOk0))) rfl rfl) ?_
    all_goals refine awpOps_cons (op_not rfl rfl) ?_
    all_goals refine awpOps_cons (op_mv rfl (Conv.of rfl) rfl) ?_
    all_goals refine g_split (t := 13) rfl (fun h => ?_) (fun h => ?_)
    all_goals first | refine awpOps_cons (g_off rfl rfl rfl rfl rfl) ?_ | refine awpOps_cons (g_on rfl rfl rfl (op_mv rfl (Conv.of rfl) rfl)) ?_
    all_goals first | refine awpOps_cons (g_off rfl rfl rfl rfl rfl) ?_ | refine awpOps_cons (g_on rfl rfl rfl (op_fab f29_3_WrldS rfl rfl)) ?_
    all_goals first | refine awpOps_cons (g_off rfl rfl rfl rfl rfl) ?_ | refine awpOps_cons (g_on rfl rfl rfl (op_ld ty3 rfl rfl rfl)) ?_
    all_goals first | refine awpOps_cons (g_off rfl rfl rfl rfl rfl) ?_ | refine awpOps_cons (g_on rfl rfl rfl (op_eql rfl rfl rfl)) ?_
    all_goals refine awpOps_cons (op_pick rfl rfl rfl rfl) ?_
    all_goals refine awpOps_cons (op_mv rfl (Conv.of rfl) rfl) ?_
    all_goals first | refine g_lit (t := 19) (b := true) rfl ?_ | refine g_split (t := 19) rfl (fun h => ?_) (fun h => ?_)
    all_goals first | refine awpOps_cons (g_off rfl rfl rfl rfl rfl) ?_ | refine awpOps_cons (g_on rfl rfl rfl (op_ld ty58 rfl rfl rfl)) ?_
    all_goals first | refine awpOps_cons (g_off rfl rfl rfl rfl rfl) ?_ | refine awpOps_cons (g_on rfl rfl rfl (op_call fb129 (.cons rfl (Conv.of rfl) (.nil _)) (sPayOk_ct _) (argOk rfl rfl argOk0) rfl rfl)) ?_
    all_goals first | refine awpOps_cons (g_off rfl rfl rfl rfl rfl) ?_ | refine awpOps_cons (g_on rfl rfl rfl (op_not rfl rfl)) ?_
    all_goals refine awpOps_cons (op_pick rfl rfl rfl rfl) ?_
    all_goals refine awpOps_cons (op_mv rfl (Conv.of rfl) rfl) ?_
    all_goals first | refine g_lit (t := 24) (b := true) rfl ?_ | refine g_split (t := 24) rfl (fun h => ?_) (fun h => ?_)
    all_goals first | refine awpOps_cons (g_off rfl rfl rfl rfl rfl) ?_ | refine awpOps_cons (g_on rfl rfl rfl (op_ldd ty29_WrldS rfl rfl rfl)) ?_
    all_goals first | refine awpOps_cons (g_off rfl rfl rfl rfl rfl) ?_ | refine awpOps_cons (g_on rfl rfl rfl (op_callO fb130 (.cons rfl (Conv.of rfl) (.nil _)) (l21Room_ct w _) (olsk rfl ols0) (oksk (by exact obOkNs) oks0) (oksk (by exact obOkNs) oks0) rfl (argOb rfl rfl rfl argO0) (fun o ho => by cases ho) rfl)) ?_
    all_goals first | refine awpOps_cons (g_off rfl rfl rfl rfl rfl) ?_ | refine awpOps_cons (g_on rfl rfl rfl (op_not rfl rfl)) ?_
    all_goals refine awpOps_cons (op_pick rfl rfl rfl rfl) ?_
    all_goals refine awpOps_nil ?_
    all_goals exact Le.mk rfl (tle rfl (rfl) rfl (tlb rfl rfl rfl (tlb rfl rfl rfl (tlb rfl rfl rfl (tle rfl (by (simp_all [sW]; try (rw [Bool.eq_iff_iff]; simp; try omega))) rfl tln))))) (olk rfl (by exact obOkNs) (olk rfl (by exact obOkS rfl) (olk rfl (by exact obOk_cell) (olk rfl (by exact obOkS0) oln)))) (hS_sub (a := so w) rfl)
  refine awp_cond rfl (fun h => ?_) (fun h => ?_)
  · all_goals refine awp_seq (awp_region (id := 2) ?_)
    all_goals refine awpOps_cons (op_ldm ty29_WrldS rfl rfl rfl) ?_
    all_goals refine awpOps_cons (op_stm ty29_WrldS rfl rfl rfl) ?_
    all_goals refine awpOps_nil ?_
    refine awp_ret ?_
    repeat first | refine rt_seq ?_ | refine rt_block ?_
    refine ⟨_, _, res1C (ol := so w) ty29_WrldS rfl rfl (inOne rfl) (olk rfl obOkNs oln) (hS_sub rfl), ?_, ?_⟩
    · have h' := not_t h
      have e : wproposeF w id p = w := by
        unfold wproposeF honestB
        rw [if_neg]
        intro hh
        simp only [Bool.and_eq_true] at hh
        simp [hh.1.1.1, hh.1.1.2, hh.1.2, hh.2] at h'
      rw [e]
    · have h' := not_t h
      have e : wproposeF w id p = w := by
        unfold wproposeF honestB
        rw [if_neg]
        intro hh
        simp only [Bool.and_eq_true] at hh
        simp [hh.1.1.1, hh.1.1.2, hh.1.2, hh.2] at h'
      rw [e]
  · have h' := not_f h
    simp only [Bool.and_eq_true] at h'
    have hid : 1 ≤ id ∧ id ≤ 4 := by simpa [within] using h'.1.1.1
    have hlt : (id - 1).toNat < w.nodes.length := by omega
    have hx : w.nodes[(id - 1).toNat]? = some w.nodes[(id - 1).toNat] := List.getElem?_eq_getElem hlt
    have hno := hw.nodes _ (List.getElem_mem hlt)
    generalize hnn : w.nodes[(id - 1).toNat] = n at hx hno
    have hx' : (w.nodes.map sN)[(id - 1).toNat]? = some (sN n) := by rw [List.getElem?_map, hx]; rfl
    have hy : ∀ y : NodS, ((w.nodes.map sN).set (id - 1).toNat y)[(id - 1).toNat]? = some y := fun y => by
      rw [List.getElem?_set_self (by rw [List.length_map]; exact hlt)]
    have hln : ((w.nodes.map sN).length : Int) = 4 := by simp [h4]
    have hgd := hw.fine.seen n (List.mem_of_getElem? hx)
    have e : wproposeF w id p = putF w (id - 1).toNat (proposeF n p) := by
      unfold wproposeF honestB
      rw [if_pos (by simp only [h'.1.1.1, h'.1.1.2, h'.1.2, h'.2, Bool.and_self]), hx]
    rw [e]
    refine awp_skip ?_
    all_goals refine awp_seq (dr_start (id := 3) ?_)
    all_goals refine dr_cons (op_fab f29_1_WrldS rfl rfl) ?_
    all_goals refine dr_cons (op_ld ty26_NRef rfl rfl rfl) ?_
    all_goals refine dr_cons (op_mv rfl (Conv.of rfl) rfl) ?_
    all_goals refine dr_cons (op_sub rfl rfl rfl (by omega)) ?_
    all_goals refine dr_cons (op_ixA sl26_NodS rfl rfl rfl rfl ⟨by omega, by omega⟩) ?_
    all_goals refine dr_cons (op_ldme ty41_NodS rfl rfl hx' rfl) ?_
    all_goals refine dr_cons (op_ld ty58 rfl rfl rfl) ?_
    all_goals refine dr_cons (OpOk.emit (d := 38) (o' := 9) 28 (op_callM (s := 36) (ol := []) (ol' := []) (pre := []) fb131 (.nil _) rfl (.cons rfl (Conv.of rfl) (.nil _)) (l12Propose_w n p hno) ols0 oks0 oks0 rfl argO0 (argOk' rfl rfl argO0) (fun o ho => absurd (show o ∈ ([] : List Nat) from ho) (by simp)) (fun o ho => absurd (show o ∈ ([] : List Nat) from ho) (by simp)) rfl) rfl rfl rfl rfl rfl) ?_
    all_goals refine dr_cons (op_mv rfl (Conv.of rfl) rfl) ?_
    all_goals refine dr_cons (op_ext rfl rfl rfl) ?_
    all_goals refine dr_cons (op_ext rfl rfl rfl) ?_
    all_goals refine dr_cons (op_ext rfl rfl rfl) ?_
    all_goals refine dr_cons (op_alloc (o := 10) z41_NodR rfl rfl) ?_
    all_goals refine dr_cons (op_alloc (o := 11) z48 rfl rfl) ?_
    all_goals refine dr_cons (op_st ty41_NodR rfl rfl (Conv.of rfl) rfl) ?_
    all_goals refine dr_cons (op_st ty48 rfl rfl (Conv.of rfl) rfl) ?_
    all_goals refine dr_cons (op_as rfl (Conv.of rfl) rfl) ?_
    all_goals refine dr_nil mixed rfl ?_
    all_goals refine awp_seq (awp_region (id := 4) ?_)
    all_goals refine awpOps_cons (op_fab f29_1_WrldS rfl rfl) ?_
    all_goals refine awpOps_cons (op_ld ty26_NRef rfl rfl rfl) ?_
    all_goals refine awpOps_cons (op_mv rfl (Conv.of rfl) rfl) ?_
    all_goals refine awpOps_cons (op_sub rfl rfl rfl (by omega)) ?_
    all_goals refine awpOps_cons (op_ld ty41_NodR rfl rfl rfl) ?_
    all_goals refine awpOps_cons (op_ixA sl26_NodS rfl rfl rfl rfl ⟨by omega, by simp; omega⟩) ?_
    all_goals refine awpOps_cons (op_steR 28 rfl ty41_NodS rfl rfl rfl rfl (hy _)) ?_
    all_goals refine awpOps_nil ?_
    all_goals refine awp_seq (awp_region (id := 5) ?_)
    all_goals refine awpOps_cons (op_ldm ty29_WrldS rfl rfl rfl) ?_
    all_goals refine awpOps_cons (op_ld ty48 rfl rfl rfl) ?_
    all_goals refine awpOps_cons (op_mv rfl (Conv.of rfl) rfl) ?_
    all_goals refine awpOps_cons (op_callM (s := 48) (pre := []) fb119 (.nil _) rfl (.cons rfl (Conv.of rfl) (.cons rfl (Conv.of rfl) (.nil _))) (l21Send_ct w _ _ _ hw.fine.log (proposeF_len p hgd)) (olsk rfl ols0) (oksk (by exact obOkNs) oks0) (oksk (by exact obOkNs) oks0) rfl argO0 (argOk' rfl rfl (argOk' rfl rfl argO0)) (inOne rfl) (inOne rfl) rfl) ?_
    all_goals refine awpOps_cons (op_stm ty29_WrldS rfl rfl rfl) ?_
    all_goals refine awpOps_nil ?_
    refine awp_ret ?_
    repeat first | refine rt_seq ?_ | refine rt_block ?_
    refine ⟨_, _, res1C (ol := [(1, .arr _)]) ty29_WrldS rfl rfl (inOne rfl) (olk rfl obOkNs oln) (hS_sub rfl), ?_, ?_⟩
    · rw [← sW_put]; rfl
    · exact congrArg (fun z => obs [(1, Wt.Obj.arr z)]) (by rw [put_nodes]; exact set_sN _ _ _ _)
set_option maxHeartbeats 4000000 in
theorem l21Bring_ct (w : Wrld) (at_ id : Int) (hw : FineX w) : CtO Tryz.prog 117 [.v (sW w), .v at_, .v id] (so w) (.v (sW (wbringF w at_ id))) (so (wbringF w at_ id)) := by
  have h4 := hw.four
  have hlg := hw.fine.log.len
  have hidle : ∀ h' : (within at_ 0 ((w.log.length : Int) - 1) && within id 1 4 && !decide (id = w.bad) && decide (w.log.length < 80)) = false, wbringF w at_ id = w := fun h' => by
    unfold wbringF honestB
    rw [if_neg]
    intro hh
    simp only [Bool.and_eq_true] at hh
    simp [hh.1.1.1, hh.1.1.2, hh.1.2, hh.2] at h'
  refine Ct.intro Tryz.func117 rfl rfl ?_
  all_goals refine awp_seq (awp_region (id := 0) ?_)
  all_goals refine awpOps_cons (op_boxm (o := 5) ty29_WrldS rfl rfl rfl rfl) ?_
  all_goals refine awpOps_cons (op_alloc (o := 6) z29_WrldS rfl rfl) ?_
  all_goals refine awpOps_nil ?_
  refine awp_seq (awp_seq_to (s' := mkSt 60 [(1, .v at_), (2, .v id), (3, .box 5 (IsLens.whole WrldS)), (6, .box 6 (IsLens.whole WrldS)), (32, .v (!(within at_ 0 ((w.log.length : Int) - 1) && within id 1 4 && !decide (id = w.bad) && decide (w.log.length < 80))))] [(1, .arr (w.nodes.map sN)), (5, .cell (sW w)), (6, .cell WrldS.zero)]) ?_ ?_)
  · all_goals refine awp_region (id := 1) ?_
    all_goals refine awpOps_cons (op_mv rfl (Conv.of rfl) rfl) ?_
    all_goals refine awpOps_cons (op_fab f29_2_WrldS rfl rfl) ?_
    all_goals refine awpOps_cons (op_ldl ty27_OListVote rfl rfl rfl) ?_
    all_goals refine awpOps_cons (op_len sl27 rfl rfl) ?_
    all_goals refine awpOps_cons (op_sub rfl rfl rfl (by (simp only [sW]; omega))) ?_
    all_goals refine awpOps_cons (op_call fb80 (.cons rfl (Conv.of rfl) (.cons rfl (Conv.of rfl) (.cons rfl (Conv.of rfl) (.nil _)))) (l6In_ct _ _ _) (argOk rfl rfl (argOk rfl rfl (argOk rfl rfl argOk0))) rfl rfl) ?_
    all_goals refine awpOps_cons (op_not rfl rfl) ?_
    all_goals refine awpOps_cons (op_mv rfl (Conv.of rfl) rfl) ?_
    all_goals refine g_split (t := 17) rfl (fun h => ?_) (fun h => ?_)
    all_goals first | refine awpOps_cons (g_off rfl rfl rfl rfl rfl) ?_ | refine awpOps_cons (g_on rfl rfl rfl (op_mv rfl (Conv.of rfl) rfl)) ?_
    all_goals first | refine awpOps_cons (g_off rfl rfl rfl rfl rfl) ?_ | refine awpOps_cons (g_on rfl rfl rfl (op_call fb80 (.cons rfl (Conv.of rfl) (.cons rfl (Conv.of rfl) (.cons rfl (Conv.of rfl) (.nil _)))) (l6In_ct _ _ _) (argOk rfl rfl (argOk rfl rfl (argOk rfl rfl argOk0))) rfl rfl)) ?_
    all_goals first | refine awpOps_cons (g_off rfl rfl rfl rfl rfl) ?_ | refine awpOps_cons (g_on rfl rfl rfl (op_not rfl rfl)) ?_
    all_goals refine awpOps_cons (op_pick rfl rfl rfl rfl) ?_
    all_goals refine awpOps_cons (op_mv rfl (Conv.of rfl) rfl) ?_
    all_goals first | refine g_lit (t := 22) (b := true) rfl ?_ | refine g_split (t := 22) rfl (fun h => ?_) (fun h => ?_)
    all_goals first | refine awpOps_cons (g_off rfl rfl rfl rfl rfl) ?_ | refine awpOps_cons (g_on rfl rfl rfl (op_mv rfl (Conv.of rfl) rfl)) ?_
    all_goals first | refine awpOps_cons (g_off rfl rfl rfl rfl rfl) ?_ | refine awpOps_cons (g_on rfl rfl rfl (op_fab f29_3_WrldS rfl rfl)) ?_
    all_goals first | refine awpOps_cons (g_off rfl rfl rfl rfl rfl) ?_ | refine awpOps_cons (g_on rfl rfl rfl (op_ld ty3 rfl rfl rfl)) ?_
    all_goals first | refine awpOps_cons (g_off rfl rfl rfl rfl rfl) ?_ | refine awpOps_cons (g_on rfl rfl rfl (op_eql rfl rfl rfl)) ?_
    all_goals refine awpOps_cons (op_pick rfl rfl rfl rfl) ?_
    all_goals refine awpOps_cons (op_mv rfl (Conv.of rfl) rfl) ?_
    all_goals first | refine g_lit (t := 28) (b := true) rfl ?_ | refine g_split (t := 28) rfl (fun h => ?_) (fun h => ?_)
    all_goals first | refine awpOps_cons (g_off rfl rfl rfl rfl rfl) ?_ | refine awpOps_cons (g_on rfl rfl rfl (op_ldd ty29_WrldS rfl rfl rfl)) ?_
    all_goals first | refine awpOps_cons (g_off rfl rfl rfl rfl rfl) ?_ | refine awpOps_cons (g_on rfl rfl rfl (op_callO fb130 (.cons rfl (Conv.of rfl) (.nil _)) (l21Room_ct w _) (olsk rfl ols0) (oksk (by exact obOkNs) oks0) (oksk (by exact obOkNs) oks0) rfl (argOb rfl rfl rfl argO0) (fun o ho => by cases ho) rfl)) ?_
    all_goals first | refine awpOps_cons (g_off rfl rfl rfl rfl rfl) ?_ | refine awpOps_cons (g_on rfl rfl rfl (op_not rfl rfl)) ?_
    all_goals refine awpOps_cons (op_pick rfl rfl rfl rfl) ?_
    all_goals refine awpOps_nil ?_
    all_goals exact Le.mk rfl (tle rfl (rfl) rfl (tle rfl (rfl) rfl (tlb rfl rfl rfl (tlb rfl rfl rfl (tle rfl (by (simp_all [sW]; try (rw [Bool.eq_iff_iff]; simp; try omega))) rfl tln))))) (olk rfl (by exact obOkNs) (olk rfl (by exact obOkS rfl) (olk rfl (by exact obOkS0) oln))) (hS_sub (a := so w) rfl)
  refine awp_cond rfl (fun h => ?_) (fun h => ?_)
  · all_goals refine awp_seq (awp_region (id := 2) ?_)
    all_goals refine awpOps_cons (op_ldm ty29_WrldS rfl rfl rfl) ?_
    all_goals refine awpOps_cons (op_stm ty29_WrldS rfl rfl rfl) ?_
    all_goals refine awpOps_nil ?_
    refine awp_ret ?_
    repeat first | refine rt_seq ?_ | refine rt_block ?_
    refine ⟨_, _, res1C (ol := so w) ty29_WrldS rfl rfl (inOne rfl) (olk rfl obOkNs oln) (hS_sub rfl), ?_, ?_⟩
    · rw [hidle (not_t h)]
    · rw [hidle (not_t h)]
  · have h' := not_f h
    simp only [Bool.and_eq_true] at h'
    have hid : 1 ≤ id ∧ id ≤ 4 := by simpa [within] using h'.1.1.2
    have hat : 0 ≤ at_ ∧ at_ ≤ (w.log.length : Int) - 1 := by simpa [within] using h'.1.1.1
    have hlt : (id - 1).toNat < w.nodes.length := by omega
    have hx : w.nodes[(id - 1).toNat]? = some w.nodes[(id - 1).toNat] := List.getElem?_eq_getElem hlt
    have hltv : at_.toNat < w.log.length := by omega
    have hv : w.log[at_.toNat]? = some w.log[at_.toNat] := List.getElem?_eq_getElem hltv
    have hno := hw.nodes _ (List.getElem_mem hlt)
    have hvl := hw.fine.log.v _ (List.getElem_mem hltv)
    generalize hnn : w.nodes[(id - 1).toNat] = n at hx hno
    generalize hvv : w.log[at_.toNat] = v at hv hvl
    have hv' : (sW w).log.l[at_.toNat]? = some v := hv
    have hx' : (w.nodes.map sN)[(id - 1).toNat]? = some (sN n) := by rw [List.getElem?_map, hx]; rfl
    have hy : ∀ y : NodS, ((w.nodes.map sN).set (id - 1).toNat y)[(id - 1).toNat]? = some y := fun y => by
      rw [List.getElem?_set_self (by rw [List.length_map]; exact hlt)]
    have hln : ((w.nodes.map sN).length : Int) = 4 := by simp [h4]
    have hgd := hw.fine.seen n (List.mem_of_getElem? hx)
    have e : wbringF w at_ id = putF w (id - 1).toNat (hearF n v) := by
      unfold wbringF honestB
      rw [if_pos (by simp only [h'.1.1.1, h'.1.1.2, h'.1.2, h'.2, Bool.and_self]), hx, hv]
    rw [e]
    refine awp_skip ?_
    all_goals refine awp_seq (dr_start (id := 3) ?_)
    all_goals refine dr_cons (op_fab f29_1_WrldS rfl rfl) ?_
    all_goals refine dr_cons (op_ld ty26_NRef rfl rfl rfl) ?_
    all_goals refine dr_cons (op_mv rfl (Conv.of rfl) rfl) ?_
    all_goals refine dr_cons (op_sub rfl rfl rfl (by omega)) ?_
    all_goals refine dr_cons (op_ixA sl26_NodS rfl rfl rfl rfl ⟨by omega, by omega⟩) ?_
    all_goals refine dr_cons (op_ldme ty41_NodS rfl rfl hx' rfl) ?_
    all_goals refine dr_cons (op_fab f29_2_WrldS rfl rfl) ?_
    all_goals refine dr_cons (op_ldl ty27_OListVote rfl rfl rfl) ?_
    all_goals refine dr_cons (op_mv rfl (Conv.of rfl) rfl) ?_
    all_goals refine dr_cons (op_ix sl27 rfl rfl rfl (by omega) hv') ?_
    all_goals refine dr_cons (op_ldr ty48 rfl rfl) ?_
    all_goals refine dr_cons (OpOk.emit (d := 46) (o' := 9) 32 (op_callM (s := 40) (ol := []) (ol' := []) (pre := []) fb103 (.nil _) rfl (.cons rfl (Conv.of rfl) (.nil _)) (l12Hear_w n v hno hvl) ols0 oks0 oks0 rfl argO0 (argOk' rfl rfl argO0) (fun o ho => absurd (show o ∈ ([] : List Nat) from ho) (by simp)) (fun o ho => absurd (show o ∈ ([] : List Nat) from ho) (by simp)) rfl) rfl rfl rfl rfl rfl) ?_
    all_goals refine dr_cons (op_mv rfl (Conv.of rfl) rfl) ?_
    all_goals refine dr_cons (op_ext rfl rfl rfl) ?_
    all_goals refine dr_cons (op_ext rfl rfl rfl) ?_
    all_goals refine dr_cons (op_ext rfl rfl rfl) ?_
    all_goals refine dr_cons (op_alloc (o := 10) z41_NodR rfl rfl) ?_
    all_goals refine dr_cons (op_alloc (o := 11) z48 rfl rfl) ?_
    all_goals refine dr_cons (op_st ty41_NodR rfl rfl (Conv.of rfl) rfl) ?_
    all_goals refine dr_cons (op_st ty48 rfl rfl (Conv.of rfl) rfl) ?_
    all_goals refine dr_cons (op_as rfl (Conv.of rfl) rfl) ?_
    all_goals refine dr_nil mixed rfl ?_
    all_goals refine awp_seq (awp_region (id := 4) ?_)
    all_goals refine awpOps_cons (op_fab f29_1_WrldS rfl rfl) ?_
    all_goals refine awpOps_cons (op_ld ty26_NRef rfl rfl rfl) ?_
    all_goals refine awpOps_cons (op_mv rfl (Conv.of rfl) rfl) ?_
    all_goals refine awpOps_cons (op_sub rfl rfl rfl (by omega)) ?_
    all_goals refine awpOps_cons (op_ld ty41_NodR rfl rfl rfl) ?_
    all_goals refine awpOps_cons (op_ixA sl26_NodS rfl rfl rfl rfl ⟨by omega, by simp; omega⟩) ?_
    all_goals refine awpOps_cons (op_steR 32 rfl ty41_NodS rfl rfl rfl rfl (hy _)) ?_
    all_goals refine awpOps_nil ?_
    all_goals refine awp_seq (awp_region (id := 5) ?_)
    all_goals refine awpOps_cons (op_ldm ty29_WrldS rfl rfl rfl) ?_
    all_goals refine awpOps_cons (op_ld ty48 rfl rfl rfl) ?_
    all_goals refine awpOps_cons (op_mv rfl (Conv.of rfl) rfl) ?_
    all_goals refine awpOps_cons (op_callM (s := 56) (pre := []) fb119 (.nil _) rfl (.cons rfl (Conv.of rfl) (.cons rfl (Conv.of rfl) (.nil _))) (l21Send_ct w _ _ _ hw.fine.log (hearF_len v hgd)) (olsk rfl ols0) (oksk (by exact obOkNs) oks0) (oksk (by exact obOkNs) oks0) rfl argO0 (argOk' rfl rfl (argOk' rfl rfl argO0)) (inOne rfl) (inOne rfl) rfl) ?_
    all_goals refine awpOps_cons (op_stm ty29_WrldS rfl rfl rfl) ?_
    all_goals refine awpOps_nil ?_
    refine awp_ret ?_
    repeat first | refine rt_seq ?_ | refine rt_block ?_
    refine ⟨_, _, res1C (ol := [(1, .arr _)]) ty29_WrldS rfl rfl (inOne rfl) (olk rfl obOkNs oln) (hS_sub rfl), ?_, ?_⟩
    · rw [← sW_put]; rfl
    · exact congrArg (fun z => obs [(1, Wt.Obj.arr z)]) (by rw [put_nodes]; exact set_sN _ _ _ _)
end Go.Proofs.YtmdhfalfppkpeaaGreat

/- The reference: what happens in a world; a play. -/
set_option linter.unusedVariables false
set_option linter.unusedSimpArgs false
namespace Go.Proofs.YtmdhfalfppkpeaaGreat
open Go Go.Wt
theorem send_nodes (w : Wrld) (v : Vote) : (sendF w v).nodes = w.nodes := by unfold sendF; split <;> rfl
set_option maxHeartbeats 1000000 in
theorem l21Tick_ct (w : Wrld) (hw : Fine w) : CtO Tryz.prog 77 [.v (sW w)] (so w) (.v (sW (tickF w))) (so (tickF w)) := by
  have hep := hw.ep
  have h4 := hw.four
  refine Ct.intro Tryz.func77 rfl rfl ?_
  all_goals refine awp_seq (awp_region (id := 0) ?_)
  all_goals refine awpOps_cons (op_boxm (o := 5) ty29_WrldS rfl rfl rfl rfl) ?_
  all_goals refine awpOps_cons (op_alloc (o := 6) z29_WrldS rfl rfl) ?_
  all_goals refine awpOps_nil ?_
  all_goals refine awp_seq (awp_region (id := 1) ?_)
  all_goals refine awpOps_cons (op_fab f29_0_WrldS rfl rfl) ?_
  all_goals refine awpOps_cons (op_ld ty3 rfl rfl rfl) ?_
  all_goals refine awpOps_cons (op_add rfl rfl rfl (by ((try simp only [sW]); omega))) ?_
  all_goals refine awpOps_cons (op_min rfl rfl rfl) ?_
  all_goals refine awpOps_cons (op_fab f29_0_WrldS rfl rfl) ?_
  all_goals refine awpOps_cons (op_st ty3 rfl rfl (Conv.of rfl) rfl) ?_
  all_goals refine awpOps_nil ?_
  all_goals refine awp_seq (awp_seq (awp_region (id := 2) ?_))
  all_goals refine awpOps_cons (op_as rfl (Conv.of rfl) rfl) ?_
  all_goals refine awpOps_nil ?_
  refine awp_block ?_
  refine awp_loop' (fun n_ s => ∃ (k : Nat), ∃ (hn : n_ + k = 4), s = mkSt 29 [(1, .box 5 (IsLens.whole WrldS)), (2, .box 6 (IsLens.whole WrldS)), (3, .v (k : Int))] [(1, .arr (((w.nodes.take k).map (fun n => enterF n (min (w.epoch + 1) 30)) ++ w.nodes.drop k).map sN)), (5, .cell (sW (tickF w))), (6, .cell WrldS.zero)]) (4) ⟨0, by omega, rfl⟩ (Le.mk rfl (tlb rfl rfl rfl (tlb rfl rfl rfl (tle rfl (rfl) rfl tln))) (olk (by rfl) (by exact obOkNs) (olk rfl (by exact obOkS rfl) (olk rfl (by exact obOkS0) oln))) (hS_sub (a := so w) rfl)) ?_
  rintro n_ s ⟨k, hn, rfl⟩
  have hlen : (((w.nodes.take k).map (fun n => enterF n (min (w.epoch + 1) 30)) ++ w.nodes.drop k).map sN).length = 4 := by simp; omega
  all_goals refine awp_seq (awp_seq (awp_region (id := 3) ?_))
  all_goals refine awpOps_cons (op_mv rfl (Conv.of rfl) rfl) ?_
  all_goals refine awpOps_cons (op_fab f29_1_WrldS rfl rfl) ?_
  all_goals refine awpOps_cons (op_ld ty26_NRef rfl rfl rfl) ?_
  all_goals refine awpOps_cons (op_lenA sl26_NodS rfl rfl rfl) ?_
  all_goals refine awpOps_cons (op_lss rfl rfl rfl) ?_
  all_goals refine awpOps_nil ?_
  refine awp_cond rfl (fun h => ?_) (fun h => ?_)
  · have hlt : k < 4 := by rw [hlen] at h; simp at h; omega
    have hx : w.nodes[k]? = some w.nodes[k] := List.getElem?_eq_getElem (by omega)
    have hx' : (((w.nodes.take k).map (fun n => enterF n (min (w.epoch + 1) 30)) ++ w.nodes.drop k).map sN)[(k : Int).toNat]? = some (sN w.nodes[k]) := by
      rw [List.getElem?_map, List.getElem?_append_right (by simp; omega)]
      simp [Nat.min_eq_left (show k ≤ w.nodes.length by omega), hx]
    have hne := hw.nep _ (List.getElem_mem (show k < w.nodes.length by omega))
    have hy : ∀ y : NodS, ((((w.nodes.take k).map (fun n => enterF n (min (w.epoch + 1) 30)) ++ w.nodes.drop k).map sN).set (k : Int).toNat y)[(k : Int).toNat]? = some y := fun y => by
      rw [List.getElem?_set_self (by rw [hlen]; omega)]
    have hnext : ∀ y : NodS, ((((w.nodes.take k).map (fun n => enterF n (min (w.epoch + 1) 30)) ++ w.nodes.drop k).map sN).set (k : Int).toNat y).set (k : Int).toNat (sN (enterF w.nodes[k] (min (w.epoch + 1) 30))) = ((w.nodes.take (k + 1)).map (fun n => enterF n (min (w.epoch + 1) 30)) ++ w.nodes.drop (k + 1)).map sN := fun y => by
      rw [set_sN]
      exact congrArg _ (tick_step hx).symm
    refine awp_skip ?_
    refine awp_seq (awp_block ?_)
    all_goals refine dr_start (id := 5) ?_
    all_goals refine dr_cons (op_fab f29_1_WrldS rfl rfl) ?_
    all_goals refine dr_cons (op_ld ty26_NRef rfl rfl rfl) ?_
    all_goals refine dr_cons (op_mv rfl (Conv.of rfl) rfl) ?_
    all_goals refine dr_cons (op_fab f29_1_WrldS rfl rfl) ?_
    all_goals refine dr_cons (op_ld ty26_NRef rfl rfl rfl) ?_
    all_goals refine dr_cons (op_mv rfl (Conv.of rfl) rfl) ?_
    all_goals refine dr_cons (op_ixA sl26_NodS rfl rfl rfl rfl ⟨by omega, by omega⟩) ?_
    all_goals refine dr_cons (op_ldme ty41_NodS rfl rfl hx' rfl) ?_
    all_goals refine dr_cons (op_fab f29_0_WrldS rfl rfl) ?_
    all_goals refine dr_cons (op_ld ty3 rfl rfl rfl) ?_
    all_goals refine dr_cons (op_callM (s := 23) (ol := []) (ol' := []) (pre := []) fb99 (.nil _) rfl (.cons rfl (Conv.of rfl) (.nil _)) (l12Enter_ct _ _ hne) ols0 oks0 oks0 rfl argO0 (argOk' rfl rfl argO0) (fun o ho => absurd (show o ∈ ([] : List Nat) from ho) (by simp)) (fun o ho => absurd (show o ∈ ([] : List Nat) from ho) (by simp)) rfl) ?_
    all_goals refine dr_cons (op_ixA sl26_NodS rfl rfl rfl rfl ⟨by omega, by rw [List.length_set]; omega⟩) ?_
    all_goals refine dr_cons (op_stme ty41_NodS rfl rfl rfl (hy _)) ?_
    all_goals refine dr_nil mixed rfl ?_
    all_goals refine awp_region (id := 4) ?_
    all_goals refine awpOps_cons (op_mv rfl (Conv.of rfl) rfl) ?_
    all_goals refine awpOps_cons (op_add rfl rfl rfl (by omega)) ?_
    all_goals refine awpOps_cons (op_as rfl (Conv.of rfl) rfl) ?_
    all_goals refine awpOps_nil ?_
    repeat first | refine nx_seq ?_ | refine nx_block ?_
    exact ⟨n_ - 1, _, by omega, ⟨k + 1, by omega, rfl⟩, Le.mk rfl (tlb rfl rfl rfl (tlb rfl rfl rfl (tle rfl (rfl) rfl tln))) (olk (by (exact congrArg Obj.arr (hnext _))) (by exact obOkNs) (olk rfl (by exact obOkS rfl) (olk rfl (by exact obOkS0) oln))) (hS_sub (a := so w) rfl)⟩
  · refine awp_exit ?_
    repeat refine ex_seq ?_
    refine ex_block ?_
    have hk : k = 4 := by rw [hlen] at h; simp at h; omega
    subst hk
    all_goals refine awp_seq (awp_region (id := 6) ?_)
    all_goals refine awpOps_cons (op_ldm ty29_WrldS rfl rfl rfl) ?_
    all_goals refine awpOps_cons (op_stm ty29_WrldS rfl rfl rfl) ?_
    all_goals refine awpOps_nil ?_
    refine awp_ret ?_
    repeat first | refine rt_seq ?_ | refine rt_block ?_
    refine ⟨_, _, res1C (ol := [(1, .arr _)]) ty29_WrldS rfl rfl (inOne rfl) (olk rfl obOkNs oln) (hS_sub rfl), rfl, ?_⟩
    exact congrArg (fun z => obs [(1, Wt.Obj.arr z)]) (by rw [take_end (by omega), drop_end (by omega), List.append_nil]; rfl)
set_option maxHeartbeats 1000000 in
theorem l21Do_ct (w : Wrld) (e : Evt) (hw : FineX w) : CtO Tryz.prog 58 [.v (sW w), .v e] (so w) (.v (sW (doF w e))) (so (doF w e)) := by
  refine Ct.intro Tryz.func58 rfl rfl ?_
  all_goals refine awp_seq (awp_region (id := 0) ?_)
  all_goals refine awpOps_cons (op_boxm (o := 5) ty29_WrldS rfl rfl rfl rfl) ?_
  all_goals refine awpOps_cons (op_box (o := 6) ty78 rfl (Conv.of rfl) rfl rfl) ?_
  all_goals refine awpOps_cons (op_alloc (o := 7) z29_WrldS rfl rfl) ?_
  all_goals refine awpOps_nil ?_
  all_goals refine awp_seq (awp_seq (awp_region (id := 1) ?_))
  all_goals refine awpOps_cons (op_fab f78_0 rfl rfl) ?_
  all_goals refine awpOps_cons (op_ld ty3 rfl rfl rfl) ?_
  all_goals refine awpOps_nil ?_
  refine awp_block ?_
  all_goals refine awp_seq (awp_region (id := 2) ?_)
  all_goals refine awpOps_cons (op_eql rfl rfl rfl) ?_
  all_goals refine awpOps_cons (op_as rfl (Conv.of rfl) rfl) ?_
  all_goals refine awpOps_nil ?_
  refine awp_cond rfl (fun h1 => ?_) (fun h1 => ?_)
  · have k1 : e.kind = 1 := by simpa using h1
    all_goals refine awp_seq (awp_region (id := 3) ?_)
    all_goals refine awpOps_cons (op_ldm ty29_WrldS rfl rfl rfl) ?_
    all_goals refine awpOps_cons (op_callM (s := 9) (pre := []) fb77 (.nil _) rfl (.nil _) (l21Tick_ct w hw.fine) (olsk rfl ols0) (oksk (by exact obOkNs) oks0) (oksk (by exact obOkNs) oks0) rfl argO0 argO0 (inOne rfl) (inOne rfl) rfl) ?_
    all_goals refine awpOps_cons (op_stm ty29_WrldS rfl rfl rfl) ?_
    all_goals refine awpOps_nil ?_
    refine awp_ret ?_
    repeat first | refine rt_seq ?_ | refine rt_block ?_
    refine ⟨_, _, res1C (ol := so (tickF w)) ty29_WrldS rfl rfl (inOne rfl) (olk rfl obOkNs oln) (hS_sub rfl), ?_, ?_⟩ <;> rw [doF, if_pos k1]
  · have k1 : ¬ e.kind = 1 := by simpa using h1
    all_goals refine awp_seq (awp_region (id := 4) ?_)
    all_goals refine awpOps_cons (op_eql rfl rfl rfl) ?_
    all_goals refine awpOps_cons (op_as rfl (Conv.of rfl) rfl) ?_
    all_goals refine awpOps_nil ?_
    refine awp_cond rfl (fun h2 => ?_) (fun h2 => ?_)
    · have k2 : e.kind = 2 := by simpa using h2
      all_goals refine awp_seq (awp_region (id := 5) ?_)
      all_goals refine awpOps_cons (op_ldm ty29_WrldS rfl rfl rfl) ?_
      all_goals refine awpOps_cons (op_fab f78_1 rfl rfl) ?_
      all_goals refine awpOps_cons (op_ld ty3 rfl rfl rfl) ?_
      all_goals refine awpOps_cons (op_fab f78_3 rfl rfl) ?_
      all_goals refine awpOps_cons (op_ld ty58 rfl rfl rfl) ?_
      all_goals refine awpOps_cons (op_callM (s := 13) (pre := []) fb78 (.nil _) rfl (.cons rfl (Conv.of rfl) (.cons rfl (Conv.of rfl) (.nil _))) (l21Propose_ct w _ _ hw) (olsk rfl ols0) (oksk (by exact obOkNs) oks0) (oksk (by exact obOkNs) oks0) rfl argO0 (argOk' rfl rfl (argOk' rfl rfl argO0)) (inOne rfl) (inOne rfl) rfl) ?_
      all_goals refine awpOps_cons (op_stm ty29_WrldS rfl rfl rfl) ?_
      all_goals refine awpOps_nil ?_
      refine awp_ret ?_
      repeat first | refine rt_seq ?_ | refine rt_block ?_
      refine ⟨_, _, res1C (ol := so (wproposeF w e.a e.pay)) ty29_WrldS rfl rfl (inOne rfl) (olk rfl obOkNs oln) (hS_sub rfl), ?_, ?_⟩ <;> rw [doF, if_neg k1, if_pos k2]
    · have k2 : ¬ e.kind = 2 := by simpa using h2
      all_goals refine awp_seq (awp_region (id := 6) ?_)
      all_goals refine awpOps_cons (op_eql rfl rfl rfl) ?_
      all_goals refine awpOps_cons (op_as rfl (Conv.of rfl) rfl) ?_
      all_goals refine awpOps_nil ?_
      refine awp_cond rfl (fun h3 => ?_) (fun h3 => ?_)
      · have k3 : e.kind = 3 := by simpa using h3
        all_goals refine awp_seq (awp_region (id := 7) ?_)
        all_goals refine awpOps_cons (op_ldm ty29_WrldS rfl rfl rfl) ?_
        all_goals refine awpOps_cons (op_fab f78_1 rfl rfl) ?_
        all_goals refine awpOps_cons (op_ld ty3 rfl rfl rfl) ?_
        all_goals refine awpOps_cons (op_fab f78_2 rfl rfl) ?_
        all_goals refine awpOps_cons (op_ld ty3 rfl rfl rfl) ?_
        all_goals refine awpOps_cons (op_callM (s := 21) (pre := []) fb117 (.nil _) rfl (.cons rfl (Conv.of rfl) (.cons rfl (Conv.of rfl) (.nil _))) (l21Bring_ct w _ _ hw) (olsk rfl ols0) (oksk (by exact obOkNs) oks0) (oksk (by exact obOkNs) oks0) rfl argO0 (argOk' rfl rfl (argOk' rfl rfl argO0)) (inOne rfl) (inOne rfl) rfl) ?_
        all_goals refine awpOps_cons (op_stm ty29_WrldS rfl rfl rfl) ?_
        all_goals refine awpOps_nil ?_
        refine awp_ret ?_
        repeat first | refine rt_seq ?_ | refine rt_block ?_
        refine ⟨_, _, res1C (ol := so (wbringF w e.a e.b)) ty29_WrldS rfl rfl (inOne rfl) (olk rfl obOkNs oln) (hS_sub rfl), ?_, ?_⟩ <;> rw [doF, if_neg k1, if_neg k2, if_pos k3]
      · have k3 : ¬ e.kind = 3 := by simpa using h3
        all_goals refine awp_seq (awp_region (id := 8) ?_)
        all_goals refine awpOps_cons (op_eql rfl rfl rfl) ?_
        all_goals refine awpOps_cons (op_as rfl (Conv.of rfl) rfl) ?_
        all_goals refine awpOps_nil ?_
        refine awp_cond rfl (fun h4 => ?_) (fun h4 => ?_)
        · have k4 : e.kind = 4 := by simpa using h4
          refine awp_seq_to (s' := mkSt 45 [(2, .box 5 (IsLens.whole WrldS)), (3, .box 6 (IsLens.whole Evt)), (4, .box 7 (IsLens.whole WrldS)), (39, .v (voteOk e.vote && decide (e.vote.by_ = w.bad)))] [(1, .arr (w.nodes.map sN)), (5, .cell (sW w)), (6, .cell e), (7, .cell WrldS.zero)]) ?_ ?_
          · all_goals refine awp_region (id := 9) ?_
            all_goals refine awpOps_cons (op_fab f78_4 rfl rfl) ?_
            all_goals refine awpOps_cons (op_ld ty48 rfl rfl rfl) ?_
            all_goals refine awpOps_cons (op_call fb118 (.cons rfl (Conv.of rfl) (.nil _)) (l3Vote_ct _) (argOk rfl rfl argOk0) rfl rfl) ?_
            all_goals refine awpOps_cons (op_mv rfl (Conv.of rfl) rfl) ?_
            all_goals refine g_split (t := 32) rfl (fun h => ?_) (fun h => ?_)
            all_goals first | refine awpOps_cons (g_off rfl rfl rfl rfl rfl) ?_ | refine awpOps_cons (g_on rfl rfl rfl (op_fab f78_4 rfl rfl)) ?_
            all_goals first | refine awpOps_cons (g_off rfl rfl rfl rfl rfl) ?_ | refine awpOps_cons (g_on rfl rfl rfl (op_fab f48_0 rfl rfl)) ?_
            all_goals first | refine awpOps_cons (g_off rfl rfl rfl rfl rfl) ?_ | refine awpOps_cons (g_on rfl rfl rfl (op_ld ty3 rfl rfl rfl)) ?_
            all_goals first | refine awpOps_cons (g_off rfl rfl rfl rfl rfl) ?_ | refine awpOps_cons (g_on rfl rfl rfl (op_fab f29_3_WrldS rfl rfl)) ?_
            all_goals first | refine awpOps_cons (g_off rfl rfl rfl rfl rfl) ?_ | refine awpOps_cons (g_on rfl rfl rfl (op_ld ty3 rfl rfl rfl)) ?_
            all_goals first | refine awpOps_cons (g_off rfl rfl rfl rfl rfl) ?_ | refine awpOps_cons (g_on rfl rfl rfl (op_eql rfl rfl rfl)) ?_
            all_goals refine awpOps_cons (op_pick rfl rfl rfl rfl) ?_
            all_goals refine awpOps_nil ?_
            all_goals exact Le.mk rfl (tlb rfl rfl rfl (tlb rfl rfl rfl (tlb rfl rfl rfl (tle rfl (by (clear h1 h2 h3 h4; simp_all [sW]; try (rw [Bool.eq_iff_iff]; simp))) rfl tln)))) (olk rfl (by exact obOkNs) (olk rfl (by exact obOkS rfl) (olk rfl (by exact obOk_cell) (olk rfl (by exact obOkS0) oln)))) (hS_sub (a := so w) rfl)
          refine awp_cond rfl (fun h5 => ?_) (fun h5 => ?_)
          · have hvo : voteOk e.vote = true := by simp only [Bool.and_eq_true] at h5; exact h5.1
            all_goals refine awp_seq (awp_region (id := 10) ?_)
            all_goals refine awpOps_cons (op_ldm ty29_WrldS rfl rfl rfl) ?_
            all_goals refine awpOps_cons (op_fab f78_4 rfl rfl) ?_
            all_goals refine awpOps_cons (op_ld ty48 rfl rfl rfl) ?_
            all_goals refine awpOps_cons (op_callM (s := 40) (pre := []) fb119 (.nil _) rfl (.cons rfl (Conv.of rfl) (.cons rfl (Conv.of rfl) (.nil _))) (l21Send_ct w _ true _ hw.fine.log (voteOk_len hvo)) (olsk rfl ols0) (oksk (by exact obOkNs) oks0) (oksk (by exact obOkNs) oks0) rfl argO0 (argOk' rfl rfl (argOk' rfl rfl argO0)) (inOne rfl) (inOne rfl) rfl) ?_
            all_goals refine awpOps_cons (op_stm ty29_WrldS rfl rfl rfl) ?_
            all_goals refine awpOps_nil ?_
            refine awp_ret ?_
            repeat first | refine rt_seq ?_ | refine rt_block ?_
            refine ⟨_, _, res1C (ol := so (sendF w e.vote)) ty29_WrldS rfl rfl (inOne rfl) (olk (congrArg (fun z : List Nod => Wt.Obj.arr (List.map sN z)) (send_nodes w e.vote).symm) obOkNs oln) (hS_sub rfl), ?_, ?_⟩ <;> rw [doF, if_neg k1, if_neg k2, if_neg k3, if_pos k4, h5, if_pos rfl]
          · refine awp_skip ?_
            repeat first | refine nx_seq ?_ | refine nx_block ?_
            all_goals refine awp_seq (awp_region (id := 11) ?_)
            all_goals refine awpOps_cons (op_ldm ty29_WrldS rfl rfl rfl) ?_
            all_goals refine awpOps_cons (op_stm ty29_WrldS rfl rfl rfl) ?_
            all_goals refine awpOps_nil ?_
            refine awp_ret ?_
            repeat first | refine rt_seq ?_ | refine rt_block ?_
            refine ⟨_, _, res1C (ol := so w) ty29_WrldS rfl rfl (inOne rfl) (olk rfl obOkNs oln) (hS_sub rfl), ?_, ?_⟩ <;> rw [doF, if_neg k1, if_neg k2, if_neg k3, if_pos k4, h5, if_neg (by decide)]
        · have k4 : ¬ e.kind = 4 := by simpa using h4
          refine awp_skip ?_
          repeat first | refine nx_seq ?_ | refine nx_block ?_
          all_goals refine awp_seq (awp_region (id := 11) ?_)
          all_goals refine awpOps_cons (op_ldm ty29_WrldS rfl rfl rfl) ?_
          all_goals refine awpOps_cons (op_stm ty29_WrldS rfl rfl rfl) ?_
          all_goals refine awpOps_nil ?_
          refine awp_ret ?_
          repeat first | refine rt_seq ?_ | refine rt_block ?_
          refine ⟨_, _, res1C (ol := so w) ty29_WrldS rfl rfl (inOne rfl) (olk rfl obOkNs oln) (hS_sub rfl), ?_, ?_⟩ <;> rw [doF, if_neg k1, if_neg k2, if_neg k3, if_neg k4]
theorem sWorldNew_w (bad : Int) (hb : within bad 0 4 = true) : Ct Tryz.prog 57 [.v bad] noObj (fun r1 h1 => r1 = .tup [.v (sW (newW bad)), .v true] ∧ h1 = obs (so (newW bad))) :=
  Ct.obs (sWorldNew_ct bad hb) fun G w ho o => by
    have h1 := ho 1
    have h1' : RelO G w 1 (.arr ([newC 1, newC 2, newC 3, newC 4] : List NodC)) := h1
    by_cases e : o = 1
    · subst e; exact arr_s h1'
    · have := ho o
      simpa [obs, lk0, e, orr] using this
end Go.Proofs.YtmdhfalfppkpeaaGreat

/- What is drawn. -/
set_option linter.unusedVariables false
set_option linter.unusedSimpArgs false
namespace Go.Wt
open Go
def mixV (b : List UInt8) (k : Int) : Int :=
  ((b.getD (k.tmod b.length).toNat 0).toNat : Int) * 131 + ((b.getD ((k * 7 + 3).tmod b.length).toNat 0).toNat : Int) * 1117 + k * 29 + IntKind.i64.wrap (k.tdiv b.length) * 53
/-- A number below `n`. -/
def pickV (b : List UInt8) (k n : Int) : Int :=
  if (decide (n < 1) || decide ((b.length : Int) = 0)) = true then 0
  else if decide (k < (b.length : Int)) = true then ((b.getD k.toNat 0).toNat : Int).tmod n
  else (xor64 (mixV b k) (IntKind.i64.wrap ((mixV b k).tdiv 64))).tmod n
theorem tdiv_bd {m n : Int} (h : 0 ≤ m) (hn : 0 < n) : 0 ≤ m.tdiv n ∧ m.tdiv n ≤ m := by
  rw [Int.tdiv_eq_ediv_of_nonneg h]
  exact ⟨Int.ediv_nonneg h (by omega), Int.ediv_le_self _ h⟩
theorem getD_get {b : List UInt8} {i : Int} (h0 : 0 ≤ i) (h : i < b.length) : b[i.toNat]? = some (b.getD i.toNat 0) := by
  rw [List.getElem?_eq_getElem (show i.toNat < b.length by omega), List.getD_eq_getElem?_getD, List.getElem?_eq_getElem (show i.toNat < b.length by omega)]; rfl
theorem tmod_bd {m n : Int} (h : 0 ≤ m) (hn : 0 < n) : 0 ≤ m.tmod n ∧ m.tmod n < n := ⟨Int.tmod_nonneg n h, Int.tmod_lt_of_pos m hn⟩
theorem u8_bd (x : UInt8) : (0 : Int) ≤ (x.toNat : Int) ∧ (x.toNat : Int) ≤ 255 := ⟨by omega, by have := x.toNat_lt; omega⟩
theorem mixV_bd {b : List UInt8} {k : Int} (h : 0 ≤ k ∧ k ≤ 1000000) (hb : 0 < b.length) : 0 ≤ mixV b k ∧ mixV b k ≤ 100000000 := by
  have h1 := u8_bd (b.getD (k.tmod b.length).toNat 0)
  have h2 := u8_bd (b.getD ((k * 7 + 3).tmod b.length).toNat 0)
  have h3 := tdiv_bd h.1 (show (0 : Int) < b.length by omega)
  have h4 : IntKind.i64.wrap (k.tdiv b.length) = k.tdiv b.length := wrap_in (by omega)
  unfold mixV
  rw [h4]
  omega
theorem xor64_bd {m n : Int} (h1 : 0 ≤ m ∧ m ≤ 1000000000) (h2 : 0 ≤ n ∧ n ≤ 1000000000) : 0 ≤ xor64 m n := by
  unfold xor64
  obtain ⟨a, rfl⟩ := Int.eq_ofNat_of_zero_le h1.1
  obtain ⟨c, rfl⟩ := Int.eq_ofNat_of_zero_le h2.1
  have e : (BitVec.ofInt 64 (a : Int) ^^^ BitVec.ofInt 64 (c : Int)).toNat = a ^^^ c := by
    have ha : a < 2 ^ 64 := by omega
    have hc : c < 2 ^ 64 := by omega
    rw [BitVec.toNat_xor]
    simp only [BitVec.ofInt_natCast, BitVec.toNat_ofNat, Nat.mod_eq_of_lt ha, Nat.mod_eq_of_lt hc]
  have hx : a ^^^ c < 2 ^ 62 := Nat.xor_lt_two_pow (by omega) (by omega)
  rw [e, wrap_in (by omega)]
  omega
theorem pickV_bd {b : List UInt8} {k n : Int} (h : 0 ≤ k ∧ k ≤ 1000000) : 0 ≤ pickV b k n ∧ (1 ≤ n → pickV b k n < n) := by
  unfold pickV
  split
  · exact ⟨by omega, fun h => by omega⟩
  · rename_i hh
    simp only [Bool.or_eq_true, decide_eq_true_eq, not_or] at hh
    have hb : 0 < b.length := by omega
    split
    · have := tmod_bd (u8_bd (b.getD k.toNat 0)).1 (show 0 < n by omega)
      exact ⟨this.1, fun _ => this.2⟩
    · have hm := mixV_bd h hb
      have h3 := tdiv_bd hm.1 (show (0 : Int) < 64 by omega)
      have h4 : IntKind.i64.wrap ((mixV b k).tdiv 64) = (mixV b k).tdiv 64 := wrap_in (by omega)
      rw [h4]
      have := tmod_bd (xor64_bd (m := mixV b k) (n := (mixV b k).tdiv 64) (by omega) (by omega)) (show 0 < n by omega)
      exact ⟨this.1, fun _ => this.2⟩
def nx (r : Rd) (c : Int) : Rd := ⟨r.b, r.p + c⟩
theorem nx_nx (r : Rd) (c d : Int) : nx (nx r c) d = nx r (c + d) := by simp [nx, Int.add_assoc]
def pk (r : Rd) (n : Int) : Int := pickV r.b r.p n
/-- The reader has not gone too far. -/
def Far (m : Int) (r : Rd) : Prop := 0 ≤ r.p ∧ r.p ≤ m
theorem Far.nx {m c m' : Int} {r : Rd} (h : Far m r) (hc : 0 ≤ c) (hm : m + c ≤ m') : Far m' (nx r c) := by
  unfold Far Go.Wt.nx at *; simp only; omega
theorem Far.weak {m m' : Int} {r : Rd} (h : Far m r) (hm : m ≤ m') : Far m' r := by unfold Far at *; omega
theorem pk_bd {m : Int} {r : Rd} (h : Far m r) (hm : m ≤ 1000000) (n : Int) : 0 ≤ pk r n ∧ (1 ≤ n → pk r n < n) := pickV_bd (by unfold Far at h; omega)
def payV (r : Rd) : Pay := ⟨1 + pk r 3, (1 + pk r 3 + pk (nx r 1) 2).tmod 3 + 1, 1 + pk (nx r 2) 9⟩
def chStep (s : Int × List Itm × Rd) : Int × List Itm × Rd :=
  (s.1 + 1 + IntKind.i64.wrap ((pk s.2.2 6).tdiv 5) * pk (nx s.2.2 1) 3, s.2.1 ++ [⟨s.1 + 1 + IntKind.i64.wrap ((pk s.2.2 6).tdiv 5) * pk (nx s.2.2 1) 3, payV (nx s.2.2 2)⟩], nx s.2.2 5)
def chIter (r : Rd) : Nat → Int × List Itm × Rd
  | 0 => (0, [], nx r 1)
  | n + 1 => chStep (chIter r n)
def chainV (r : Rd) : List Itm := (chIter r (pk r 7).toNat).2.1
def chainR (r : Rd) : Rd := (chIter r (pk r 7).toNat).2.2
theorem chIter_r (r : Rd) : ∀ n : Nat, (chIter r n).2.2 = nx r (1 + 5 * n)
  | 0 => rfl
  | n + 1 => by
    simp only [chIter, chStep, chIter_r r n, nx_nx]
    first | (congr 1; omega) | congr 1
theorem chIter_len (r : Rd) : ∀ n : Nat, (chIter r n).2.1.length = n
  | 0 => rfl
  | n + 1 => by simp [chIter, chStep, chIter_len r n]
theorem chIter_at {m : Int} {r : Rd} (h : Far m r) (hm : m + 1000 ≤ 1000000) : ∀ n : Nat, n ≤ 100 → 0 ≤ (chIter r n).1 ∧ (chIter r n).1 ≤ 4 * n
  | 0, _ => by simp [chIter]
  | n + 1, hn => by
    have ih := chIter_at h hm n (by omega)
    have hf : Far (m + 1 + 5 * n) (nx r (1 + 5 * (n : Int))) := h.nx (by omega) (by omega)
    have h1 := pk_bd hf (by omega) 6
    have h2 := pk_bd (hf.nx (c := 1) (m' := m + 2 + 5 * n) (by omega) (by omega)) (by omega) 3
    have h3 : (pk (nx r (1 + 5 * (n : Int))) 6).tdiv 5 = 0 ∨ (pk (nx r (1 + 5 * (n : Int))) 6).tdiv 5 = 1 := by
      rw [Int.tdiv_eq_ediv_of_nonneg h1.1]
      have := h1.2 (by omega)
      omega
    simp only [chIter, chStep, chIter_r]
    rcases h3 with h3 | h3
    · rw [h3, wrap_in (by omega)]; omega
    · rw [h3, wrap_in (by omega)]
      have := h2.2 (by omega)
      omega
theorem chainV_len {m : Int} {r : Rd} (h : Far m r) (hm : m ≤ 1000000) : (chainV r).length ≤ 6 := by
  unfold chainV
  rw [chIter_len]
  have := pk_bd h hm 7
  have := this.2 (by omega)
  omega
theorem chainR_eq {r : Rd} : chainR r = nx r (1 + 5 * ((pk r 7).toNat : Int)) := chIter_r r _
theorem chainR_far {m : Int} {r : Rd} (h : Far m r) (hm : m ≤ 1000000) : Far (m + 31) (chainR r) := by
  rw [chainR_eq]
  have := pk_bd h hm 7
  have := this.2 (by omega)
  exact h.nx (by omega) (by omega)
/-- What comes first ends in one of many states. -/
theorem awp_seq_ex {P : Program} {S : Nat → Prop} {st : St} {ι : Type} {x y : Code} {Q : Exit → St → Prop} (s' : ι → St) (Φ : ι → Prop) (h1 : awp P S x (athen (fun s => ∃ i, Φ i ∧ Le S s (s' i)) Q) st) (h2 : ∀ i, Φ i → awp P S y Q (s' i)) : awp P S (.seq x y) Q st :=
  awp_seq (awp_mono h1 fun e s q => by
    cases e with
    | normal => obtain ⟨i, q1, q2⟩ := q; exact awp_le q2 (h2 i q1)
    | exit id => exact q
    | goto l => exact q
    | ret => exact q
    | panic ch => exact q
    | outgrown => exact q)
theorem awp_to_ex {P : Program} {S : Nat → Prop} {st : St} {ι : Type} {x y : Code} {Q Q' : Exit → St → Prop} (s' : ι → St) (Φ : ι → Prop) (h1 : awp P S x (athen (fun s => ∃ i, Φ i ∧ Le S s (s' i)) Q) st) (h2 : ∀ i, Φ i → awp P S y Q' (s' i)) : awp P S x (athen (awp P S y Q') Q) st :=
  awp_mono h1 fun e s q => by
    cases e with
    | normal => obtain ⟨i, q1, q2⟩ := q; exact awp_le q2 (h2 i q1)
    | exit id => exact q
    | goto l => exact q
    | ret => exact q
    | panic ch => exact q
    | outgrown => exact q
/-- A call whose result isn't known in full. -/
theorem awpOps_callE {P : Program} {S : Nat → Prop} {ops : Array Oper} {st : St} {d : Nat} {T pos aft} {x : Operand} {f : FuncId} {xs : List Operand} {av : List AV} {ts : Array TypeId} {rt : List Nat} {l : List Oper} {Q : St → Prop} {ι : Type} (ol : List (Nat × Obj)) (fr : ι → AV) (g : ι → List (Nat × Obj)) (Φ : ι → Prop) {R : AV → (Nat → Obj) → Prop}
    (hfun : st.ev x = some (.fn f [] [])) (hB : fnB P f = true) (ha : Args st 0 xs av rt) (hct : Ct P f av (obs ol) R) (hR : ∀ r h', R r h' → ∃ i, r = fr i ∧ h' = obs (g i) ∧ Φ i) (hol : OLs st ol) (hok : OKs (keys ol) ol)
    (hdis : ∀ z ∈ av, z.dis = z ∧ ∀ o ∈ z.refs, keys ol o = true) (hn : Nat.blt d st.n = true) (hke : ∀ i, keysEq ol (g i) = true) (hok' : ∀ i, OKs (keys ol) (g i)) (hrr : ∀ i, ∀ o ∈ (fr i).refs, keys ol o = true)
    (hk : ∀ i, Φ i → awpOps P S ops l Q (st.upd [(d, some (fr i))] (g i))) :
    awpOps P S ops (⟨some d, .call { callee := .value x, args := xs.toArray, argTypes := ts }, T, pos, aft, none⟩ :: l) Q st :=
  awpOps_callO (fa := []) (fc := []) ol hfun hB ha (by simpa [avs] using hct) hol hok (by simpa [avs] using hdis) hn fun r h' hr => by
    obtain ⟨i, rfl, rfl, hi⟩ := hR r h' hr
    have hkk := keysEq_keys (hke i)
    refine ⟨g i, rfl, fun o ho => (by rw [← hkk]; exact ho), fun o ho h1 => (by rw [← hkk] at ho; rw [ho] at h1; cases h1), ?_, fun o ho => (by rw [← hkk]; exact hrr i o ho), hk i hi⟩
    rw [← hkk]; exact hok' i
theorem awp_toB_ex {P : Program} {S : Nat → Prop} {st : St} {id : Nat} {ι : Type} {x y : Code} {Q Q' : Exit → St → Prop} (s' : ι → St) (Φ : ι → Prop) (h1 : awp P S x (ablock id (athen (fun s => ∃ i, Φ i ∧ Le S s (s' i)) Q)) st) (h2 : ∀ i, Φ i → awp P S y Q' (s' i)) : awp P S x (ablock id (athen (awp P S y Q') Q)) st :=
  awp_mono h1 fun e s q => by
    cases e with
    | normal => obtain ⟨i, q1, q2⟩ := q; exact awp_le q2 (h2 i q1)
    | exit j =>
      simp only [ablock] at q ⊢
      split at q
      · rw [if_pos (by assumption)]; obtain ⟨i, q1, q2⟩ := q; exact awp_le q2 (h2 i q1)
      · rw [if_neg (by assumption)]; exact q
    | goto l => exact q
    | ret => exact q
    | panic ch => exact q
    | outgrown => exact q
section bools
variable {P : Program} {S : Nat → Prop} {ops : Array Oper} {st : St} {d : Nat} {T pos aft} {x y : Operand} {t t' : TypeId} {m n : Bool}
theorem bool_bin {op : BinOp} {av : AV} {u : Value} (hx : st.ev x = some (.v m)) (hy : st.ev y = some (.v n)) (hn : Nat.blt d st.n = true)
    (h1 : ∀ w : World, (binOp op t (.bool m) (.bool n)).run P w = .ok u w) (h3 : ∀ G w ω, RelV G w ω av u) :
    OpOk P S ops ⟨some d, .binOp op t x y t', T, pos, aft, none⟩ (opT x ++ opT y) [] [(d, some av)] [] st :=
  bin_value hn fun st1 hag G w a hr => by
    have e1 := RelV.bool (hr.at hag hx fun t ht => by simp [ht])
    have e2 := RelV.bool (hr.at hag hy fun t ht => by simp [ht])
    refine ⟨u, by rw [e1, e2]; exact h1 w, by rw [e1, eqGuard_at_bool]; rfl, h3 _ _ _⟩
theorem binOp_eql_bool (t : TypeId) (m n : Bool) : binOp .eql t (.bool m) (.bool n) = (do pure (.bool (← Op.equal t (.bool m) (.bool n)))) := by unfold binOp; rfl
theorem binOp_neq_bool (t : TypeId) (m n : Bool) : binOp .neq t (.bool m) (.bool n) = (do pure (.bool !(← Op.equal t (.bool m) (.bool n)))) := by unfold binOp; rfl
theorem op_beql (hu : P.underlying t = some .bool) (hx : st.ev x = some (.v m)) (hy : st.ev y = some (.v n)) (hn : Nat.blt d st.n = true) :
    OpOk P S ops ⟨some d, .binOp .eql t x y t', T, pos, aft, none⟩ (opT x ++ opT y) [] [(d, some (.v (m == n)))] [] st :=
  bool_bin hx hy hn (u := .bool (m == n)) (fun w => by rw [binOp_eql_bool]; simp only [Sem.run_bind, run_equal_bool w t m n hu, Result.andThen_ok, Sem.run_pure]) fun G w ω => relBool G w ω _
theorem op_bneq (hu : P.underlying t = some .bool) (hx : st.ev x = some (.v m)) (hy : st.ev y = some (.v n)) (hn : Nat.blt d st.n = true) :
    OpOk P S ops ⟨some d, .binOp .neq t x y t', T, pos, aft, none⟩ (opT x ++ opT y) [] [(d, some (.v (!(m == n))))] [] st :=
  bool_bin hx hy hn (u := .bool !(m == n)) (fun w => by rw [binOp_neq_bool]; simp only [Sem.run_bind, run_equal_bool w t m n hu, Result.andThen_ok, Sem.run_pure]) fun G w ω => relBool G w ω _
end bools
end Go.Wt

/- The reference: draws. -/
set_option linter.unusedVariables false
set_option linter.unusedSimpArgs false
namespace Go.Proofs.YtmdhfalfppkpeaaGreat
open Go Go.Wt
theorem l6Open_ct (code : List UInt8) : Ct Tryz.prog 52 [.v code] noObj (fun r1 h1 => r1 = .box 0 (IsLens.whole Rd) ∧ h1 = obs [(0, .cell (Rd.mk (code.take 2000) 0))]) := by
  refine Ct.intro Tryz.func52 rfl rfl ?_
  all_goals refine awp_seq (awp_region (id := 0) ?_)
  all_goals refine awpOps_cons (op_as rfl (Conv.of rfl) rfl) ?_
  all_goals refine awpOps_nil ?_
  all_goals refine awp_seq (awp_seq (awp_region (id := 1) ?_))
  all_goals refine awpOps_cons (op_mv rfl (Conv.of rfl) rfl) ?_
  all_goals refine awpOps_cons (op_len sl22 rfl rfl) ?_
  all_goals refine awpOps_cons (op_gtr rfl rfl rfl) ?_
  all_goals refine awpOps_nil ?_
  refine awp_cond rfl (fun h => ?_) (fun h => ?_)
  · all_goals refine awp_region (id := 2) ?_
    all_goals refine awpOps_cons (op_mv rfl (Conv.of rfl) rfl) ?_
    all_goals refine awpOps_cons (op_slh sl22 rfl rfl rfl ⟨by omega, by simp at h; omega⟩) ?_
    all_goals refine awpOps_cons (op_as rfl (Conv.of rfl) rfl) ?_
    all_goals refine awpOps_nil ?_
    all_goals refine awp_seq (awp_region (id := 3) ?_)
    all_goals refine awpOps_cons (op_mv rfl (Conv.of rfl) rfl) ?_
    all_goals refine awpOps_cons (op_build (.cons f126_0 rfl (Conv.of rfl) (.nil _)) z126 rfl pl126 rfl) ?_
    all_goals refine awpOps_cons (op_box (o := 0) ty126 rfl (Conv.of rfl) rfl rfl) ?_
    all_goals refine awpOps_cons (op_as rfl (Conv.of rfl) rfl) ?_
    all_goals refine awpOps_nil ?_
    refine awp_ret ?_
    repeat first | refine rt_seq ?_ | refine rt_block ?_
    exact ⟨_, _, res1E [(0, .cell (Rd.mk (code.take 2000) 0))] rfl rfl rfl (olk rfl obOk_cell oln) noS, rfl, rfl⟩
  · have e : code.take 2000 = code := take_end (by simp at h; omega)
    refine awp_skip ?_
    all_goals refine awp_seq (awp_region (id := 3) ?_)
    all_goals refine awpOps_cons (op_mv rfl (Conv.of rfl) rfl) ?_
    all_goals refine awpOps_cons (op_build (.cons f126_0 rfl (Conv.of rfl) (.nil _)) z126 rfl pl126 rfl) ?_
    all_goals refine awpOps_cons (op_box (o := 0) ty126 rfl (Conv.of rfl) rfl rfl) ?_
    all_goals refine awpOps_cons (op_as rfl (Conv.of rfl) rfl) ?_
    all_goals refine awpOps_nil ?_
    refine awp_ret ?_
    repeat first | refine rt_seq ?_ | refine rt_block ?_
    refine ⟨_, _, res1E [(0, .cell (Rd.mk code 0))] rfl rfl rfl (olk rfl obOk_cell oln) noS, rfl, ?_⟩
    rw [e]
set_option maxHeartbeats 1000000 in
theorem pick_ct (r : Rd) (n : Int) (hp : 0 ≤ r.p ∧ r.p ≤ 1000000) : CtO Tryz.prog 54 [.box 0 (IsLens.whole Rd), .v n] [(0, .cell r)] (.v (pk r n)) [(0, .cell (nx r 1))] := by
  refine Ct.intro Tryz.func54 rfl rfl ?_
  all_goals refine awp_seq (awp_region (id := 0) ?_)
  all_goals refine awpOps_cons (op_as rfl (Conv.of rfl) rfl) ?_
  all_goals refine awpOps_nil ?_
  all_goals refine awp_seq (awp_region (id := 1) ?_)
  all_goals refine awpOps_cons (op_mv rfl (Conv.of rfl) rfl) ?_
  all_goals refine awpOps_cons (op_mv rfl (Conv.of rfl) rfl) ?_
  all_goals refine awpOps_cons (op_nilc_box rfl rfl) ?_
  all_goals refine awpOps_cons (op_fab f126_1 rfl rfl) ?_
  all_goals refine awpOps_cons (op_ld ty3 rfl rfl rfl) ?_
  all_goals refine awpOps_cons (op_add rfl rfl rfl (by omega)) ?_
  all_goals refine awpOps_cons (op_nilc_box rfl rfl) ?_
  all_goals refine awpOps_cons (op_fab f126_1 rfl rfl) ?_
  all_goals refine awpOps_cons (op_st ty3 rfl rfl (Conv.of rfl) rfl) ?_
  all_goals refine awpOps_nil ?_
  refine awp_seq (awp_seq_to (s' := mkSt 99 [(0, .box 0 (IsLens.whole Rd)), (1, .v n), (24, .v (decide (n < 1) || decide ((r.b.length : Int) = 0)))] [(0, .cell (nx r 1))]) ?_ ?_)
  · all_goals refine awp_region (id := 2) ?_
    all_goals refine awpOps_cons (op_mv rfl (Conv.of rfl) rfl) ?_
    all_goals refine awpOps_cons (op_lss rfl rfl rfl) ?_
    all_goals refine awpOps_cons (op_mv rfl (Conv.of rfl) rfl) ?_
    all_goals refine g_split (t := 17) rfl (fun h => ?_) (fun h => ?_)
    all_goals first | refine awpOps_cons (g_off rfl rfl rfl rfl rfl) ?_ | refine awpOps_cons (g_on rfl rfl rfl (op_mv rfl (Conv.of rfl) rfl)) ?_
    all_goals first | refine awpOps_cons (g_off rfl rfl rfl rfl rfl) ?_ | refine awpOps_cons (g_on rfl rfl rfl (op_nilc_box rfl rfl)) ?_
    all_goals first | refine awpOps_cons (g_off rfl rfl rfl rfl rfl) ?_ | refine awpOps_cons (g_on rfl rfl rfl (op_fab f126_0 rfl rfl)) ?_
    all_goals first | refine awpOps_cons (g_off rfl rfl rfl rfl rfl) ?_ | refine awpOps_cons (g_on rfl rfl rfl (op_ld ty22 rfl rfl rfl)) ?_
    all_goals first | refine awpOps_cons (g_off rfl rfl rfl rfl rfl) ?_ | refine awpOps_cons (g_on rfl rfl rfl (op_len sl22 rfl rfl)) ?_
    all_goals first | refine awpOps_cons (g_off rfl rfl rfl rfl rfl) ?_ | refine awpOps_cons (g_on rfl rfl rfl (op_eql rfl rfl rfl)) ?_
    all_goals refine awpOps_cons (op_pick rfl rfl rfl rfl) ?_
    all_goals refine awpOps_nil ?_
    all_goals exact Le.mk rfl (tlb rfl rfl rfl (tle rfl (rfl) rfl (tle rfl (by (simp_all [nx]; try (rw [Bool.eq_iff_iff]; simp); try (intro hh; omega))) rfl tln))) (olk rfl (by exact obOk_cell) oln) (hS_sub (a := [(0, .cell r)]) rfl)
  refine awp_cond rfl (fun h => ?_) (fun h => ?_)
  · all_goals refine awp_seq (awp_region (id := 3) ?_)
    all_goals refine awpOps_cons (op_as rfl (Conv.of rfl) rfl) ?_
    all_goals refine awpOps_nil ?_
    refine awp_ret ?_
    repeat first | refine rt_seq ?_ | refine rt_block ?_
    refine finO1 [(0, .cell (nx r 1))] (.v rfl (Conv.of rfl)) (fun o ho => by cases ho) (olk rfl obOk_cell oln) (hS_keys rfl) ?_
    show AV.v _ = AV.v _
    unfold pk pickV
    rw [if_pos h]
  · have hb : r.b.length ≠ 0 := by
      simp only [Bool.or_eq_false_iff, decide_eq_false_iff_not] at h; omega
    have hn : n ≠ 0 := by
      simp only [Bool.or_eq_false_iff, decide_eq_false_iff_not] at h; omega
    refine awp_skip ?_
    refine awp_seq_to (s' := mkSt 99 [(0, .box 0 (IsLens.whole Rd)), (1, .v n), (5, .v r.p)] [(0, .cell (nx r 1))]) ?_ ?_
    · all_goals refine awp_region (id := 4) ?_
      all_goals refine awpOps_cons (op_mv rfl (Conv.of rfl) rfl) ?_
      all_goals refine awpOps_cons (op_nilc_box rfl rfl) ?_
      all_goals refine awpOps_cons (op_fab f126_1 rfl rfl) ?_
      all_goals refine awpOps_cons (op_ld ty3 rfl rfl rfl) ?_
      all_goals refine awpOps_cons (op_sub rfl rfl rfl (by (simp only [nx]; omega))) ?_
      all_goals refine awpOps_cons (op_as rfl (Conv.of rfl) rfl) ?_
      all_goals refine awpOps_nil ?_
      all_goals exact Le.mk rfl (tlb rfl rfl rfl (tle rfl (rfl) rfl (tle rfl (by (simp only [nx]; congr 1; omega)) rfl tln))) (olk rfl (by exact obOk_cell) oln) (hS_sub (a := [(0, .cell r)]) rfl)
    all_goals refine awp_seq (awp_seq (awp_region (id := 5) ?_))
    all_goals refine awpOps_cons (op_mv rfl (Conv.of rfl) rfl) ?_
    all_goals refine awpOps_cons (op_mv rfl (Conv.of rfl) rfl) ?_
    all_goals refine awpOps_cons (op_nilc_box rfl rfl) ?_
    all_goals refine awpOps_cons (op_fab f126_0 rfl rfl) ?_
    all_goals refine awpOps_cons (op_ld ty22 rfl rfl rfl) ?_
    all_goals refine awpOps_cons (op_len sl22 rfl rfl) ?_
    all_goals refine awpOps_cons (op_lss rfl rfl rfl) ?_
    all_goals refine awpOps_nil ?_
    refine awp_cond rfl (fun h2 => ?_) (fun h2 => ?_)
    · have hlt : r.p < r.b.length := of_decide_eq_true h2
      have hx := getD_get hp.1 hlt
      all_goals refine awp_seq (awp_region (id := 6) ?_)
      all_goals refine awpOps_cons (op_mv rfl (Conv.of rfl) rfl) ?_
      all_goals refine awpOps_cons (op_nilc_box rfl rfl) ?_
      all_goals refine awpOps_cons (op_fab f126_0 rfl rfl) ?_
      all_goals refine awpOps_cons (op_ld ty22 rfl rfl rfl) ?_
      all_goals refine awpOps_cons (op_mv rfl (Conv.of rfl) rfl) ?_
      all_goals refine awpOps_cons (op_ix sl22 rfl rfl rfl (by omega) hx) ?_
      all_goals refine awpOps_cons (op_ldr ty5 rfl rfl) ?_
      all_goals refine awpOps_cons (op_cvb rfl rfl us5 ui3) ?_
      all_goals refine awpOps_cons (op_mv rfl (Conv.of rfl) rfl) ?_
      all_goals refine awpOps_cons (op_rem rfl rfl rfl (by exact hn)) ?_
      all_goals refine awpOps_cons (op_as rfl (Conv.of rfl) rfl) ?_
      all_goals refine awpOps_nil ?_
      refine awp_ret ?_
      repeat first | refine rt_seq ?_ | refine rt_block ?_
      refine finO1 [(0, .cell (nx r 1))] (.v rfl (Conv.of rfl)) (fun o ho => by cases ho) (olk rfl obOk_cell oln) (hS_keys rfl) ?_
      show AV.v _ = AV.v _
      unfold pk pickV
      rw [if_neg (by rw [h]; decide), if_pos (by simpa using hlt)]
    · have hge : ¬ r.p < r.b.length := of_decide_eq_false h2
      have m1 := tmod_bd hp.1 (show (0 : Int) < (nx r 1).b.length by simp [nx]; omega)
      have m2 := tmod_bd (show 0 ≤ r.p * 7 + 3 by omega) (show (0 : Int) < (nx r 1).b.length by simp [nx]; omega)
      have hx1 := getD_get m1.1 m1.2
      have hx2 := getD_get m2.1 m2.2
      have b1 := u8_bd ((nx r 1).b.getD (r.p.tmod (nx r 1).b.length).toNat 0)
      have b2 := u8_bd ((nx r 1).b.getD ((r.p * 7 + 3).tmod (nx r 1).b.length).toNat 0)
      have h3 := tdiv_bd hp.1 (show (0 : Int) < (nx r 1).b.length by simp [nx]; omega)
      have h4 : IntKind.i64.wrap (r.p.tdiv (nx r 1).b.length) = r.p.tdiv (nx r 1).b.length := wrap_in (by omega)
      refine awp_skip ?_
      all_goals refine awp_seq (dr_start (id := 7) ?_)
      all_goals refine dr_cons (op_mv rfl (Conv.of rfl) rfl) ?_
      all_goals refine dr_cons (op_nilc_box rfl rfl) ?_
      all_goals refine dr_cons (op_fab f126_0 rfl rfl) ?_
      all_goals refine dr_cons (op_ld ty22 rfl rfl rfl) ?_
      all_goals refine dr_cons (op_mv rfl (Conv.of rfl) rfl) ?_
      all_goals refine dr_cons (op_mv rfl (Conv.of rfl) rfl) ?_
      all_goals refine dr_cons (op_nilc_box rfl rfl) ?_
      all_goals refine dr_cons (op_fab f126_0 rfl rfl) ?_
      all_goals refine dr_cons (op_ld ty22 rfl rfl rfl) ?_
      all_goals refine dr_cons (op_len sl22 rfl rfl) ?_
      all_goals refine dr_cons (op_rem rfl rfl rfl (by (show (r.b.length : Int) ≠ 0; omega))) ?_
      all_goals refine dr_cons (op_ix sl22 rfl rfl rfl (by omega) hx1) ?_
      all_goals refine dr_cons (op_ldr ty5 rfl rfl) ?_
      all_goals refine dr_cons (op_cvb rfl rfl us5 ui3) ?_
      all_goals refine dr_cons (op_mul rfl rfl rfl (by omega)) ?_
      all_goals refine dr_cons (op_mv rfl (Conv.of rfl) rfl) ?_
      all_goals refine dr_cons (op_nilc_box rfl rfl) ?_
      all_goals refine dr_cons (op_fab f126_0 rfl rfl) ?_
      all_goals refine dr_cons (op_ld ty22 rfl rfl rfl) ?_
      all_goals refine dr_cons (op_mv rfl (Conv.of rfl) rfl) ?_
      all_goals refine dr_cons (op_mul rfl rfl rfl (by omega)) ?_
      all_goals refine dr_cons (op_add rfl rfl rfl (by omega)) ?_
      all_goals refine dr_cons (op_mv rfl (Conv.of rfl) rfl) ?_
      all_goals refine dr_cons (op_nilc_box rfl rfl) ?_
      all_goals refine dr_cons (op_fab f126_0 rfl rfl) ?_
      all_goals refine dr_cons (op_ld ty22 rfl rfl rfl) ?_
      all_goals refine dr_cons (op_len sl22 rfl rfl) ?_
      all_goals refine dr_cons (op_rem rfl rfl rfl (by (show (r.b.length : Int) ≠ 0; omega))) ?_
      all_goals refine dr_cons (op_ix sl22 rfl rfl rfl (by omega) hx2) ?_
      all_goals refine dr_cons (op_ldr ty5 rfl rfl) ?_
      all_goals refine dr_cons (op_cvb rfl rfl us5 ui3) ?_
      all_goals refine dr_cons (op_mul rfl rfl rfl (by omega)) ?_
      all_goals refine dr_cons (op_add rfl rfl rfl (by omega)) ?_
      all_goals refine dr_cons (op_mv rfl (Conv.of rfl) rfl) ?_
      all_goals refine dr_cons (op_mul rfl rfl rfl (by omega)) ?_
      all_goals refine dr_cons (op_add rfl rfl rfl (by omega)) ?_
      all_goals refine dr_cons (op_mv rfl (Conv.of rfl) rfl) ?_
      all_goals refine dr_cons (op_mv rfl (Conv.of rfl) rfl) ?_
      all_goals refine dr_cons (op_nilc_box rfl rfl) ?_
      all_goals refine dr_cons (op_fab f126_0 rfl rfl) ?_
      all_goals refine dr_cons (op_ld ty22 rfl rfl rfl) ?_
      all_goals refine dr_cons (op_len sl22 rfl rfl) ?_
      all_goals refine dr_cons (op_quo rfl rfl rfl (by (show (r.b.length : Int) ≠ 0; omega))) ?_
      all_goals refine dr_cons (op_mul rfl rfl rfl (by (rw [h4]; omega))) ?_
      all_goals refine dr_cons (op_add rfl rfl rfl (by (rw [h4]; omega))) ?_
      all_goals refine dr_cons (op_as rfl (Conv.of rfl) rfl) ?_
      all_goals refine dr_nil mixed rfl ?_
      all_goals refine awp_seq (awp_region (id := 8) ?_)
      all_goals refine awpOps_cons (op_mv rfl (Conv.of rfl) rfl) ?_
      all_goals refine awpOps_cons (op_mv rfl (Conv.of rfl) rfl) ?_
      all_goals refine awpOps_cons (op_quo rfl rfl rfl (by decide)) ?_
      all_goals refine awpOps_cons (op_xor rfl rfl rfl) ?_
      all_goals refine awpOps_cons (op_as rfl (Conv.of rfl) rfl) ?_
      all_goals refine awpOps_nil ?_
      all_goals refine awp_seq (awp_region (id := 9) ?_)
      all_goals refine awpOps_cons (op_mv rfl (Conv.of rfl) rfl) ?_
      all_goals refine awpOps_cons (op_mv rfl (Conv.of rfl) rfl) ?_
      all_goals refine awpOps_cons (op_rem rfl rfl rfl (by exact hn)) ?_
      all_goals refine awpOps_cons (op_as rfl (Conv.of rfl) rfl) ?_
      all_goals refine awpOps_nil ?_
      refine awp_ret ?_
      repeat first | refine rt_seq ?_ | refine rt_block ?_
      refine finO1 [(0, .cell (nx r 1))] (.v rfl (Conv.of rfl)) (fun o ho => by cases ho) (olk rfl obOk_cell oln) (hS_keys rfl) ?_
      show AV.v _ = AV.v _
      unfold pk pickV mixV
      rw [if_neg (by rw [h]; decide), if_neg (by simpa using hge)]
      rfl
end Go.Proofs.YtmdhfalfppkpeaaGreat

/- The reference: draws of payments and chains. -/
set_option linter.unusedVariables false
set_option linter.unusedSimpArgs false
namespace Go.Proofs.YtmdhfalfppkpeaaGreat
open Go Go.Wt
theorem l71Pay_ct (r : Rd) (hp : Far 900000 r) : CtO Tryz.prog 87 [.box 0 (IsLens.whole Rd)] [(0, .cell r)] (.v (payV r)) [(0, .cell (nx r 3))] := by
  have hp1 : Far 900001 (nx r 1) := hp.nx (by omega) (by omega)
  have hp2 : Far 900002 (nx (nx r 1) 1) := hp1.nx (by omega) (by omega)
  have b0 := pk_bd hp (by omega) 3
  have b1 := pk_bd hp1 (by omega) 2
  have b2 := pk_bd hp2 (by omega) 9
  have c0 := b0.2 (by omega)
  have c1 := b1.2 (by omega)
  have c2 := b2.2 (by omega)
  have m1 := tmod_bd (show 0 ≤ 1 + pk r 3 + pk (nx r 1) 2 by omega) (show (0 : Int) < 3 by omega)
  refine Ct.intro Tryz.func87 rfl rfl ?_
  all_goals refine awp_seq (awp_region (id := 0) ?_)
  all_goals refine awpOps_cons (op_alloc (o := 2) z58 rfl rfl) ?_
  all_goals refine awpOps_nil ?_
  all_goals refine awp_seq (awp_region (id := 1) ?_)
  all_goals refine awpOps_cons (op_mv rfl (Conv.of rfl) rfl) ?_
  all_goals refine awpOps_cons (op_callO fb54 (.cons rfl (Conv.of rfl) (.cons rfl (Conv.of rfl) (.nil _))) (pick_ct r 3 (by unfold Far at hp; omega)) (olsk rfl ols0) (oksk (by exact obOk_cell) oks0) (oksk (by exact obOk_cell) oks0) rfl (argOb rfl rfl rfl (argOk' rfl rfl argO0)) (fun o ho => by cases ho) rfl) ?_
  all_goals refine awpOps_cons (op_add rfl rfl rfl (by omega)) ?_
  all_goals refine awpOps_cons (op_as rfl (Conv.of rfl) rfl) ?_
  all_goals refine awpOps_nil ?_
  all_goals refine awp_seq (awp_region (id := 2) ?_)
  all_goals refine awpOps_cons (op_mv rfl (Conv.of rfl) rfl) ?_
  all_goals refine awpOps_cons (op_mv rfl (Conv.of rfl) rfl) ?_
  all_goals refine awpOps_cons (op_mv rfl (Conv.of rfl) rfl) ?_
  all_goals refine awpOps_cons (op_callO fb54 (.cons rfl (Conv.of rfl) (.cons rfl (Conv.of rfl) (.nil _))) (pick_ct (nx r 1) 2 (by unfold Far at hp1; omega)) (olsk rfl ols0) (oksk (by exact obOk_cell) oks0) (oksk (by exact obOk_cell) oks0) rfl (argOb rfl rfl rfl (argOk' rfl rfl argO0)) (fun o ho => by cases ho) rfl) ?_
  all_goals refine awpOps_cons (op_add rfl rfl rfl (by omega)) ?_
  all_goals refine awpOps_cons (op_rem rfl rfl rfl (by decide)) ?_
  all_goals refine awpOps_cons (op_add rfl rfl rfl (by omega)) ?_
  all_goals refine awpOps_cons (op_mv rfl (Conv.of rfl) rfl) ?_
  all_goals refine awpOps_cons (op_callO fb54 (.cons rfl (Conv.of rfl) (.cons rfl (Conv.of rfl) (.nil _))) (pick_ct (nx (nx r 1) 1) 9 (by unfold Far at hp2; omega)) (olsk rfl ols0) (oksk (by exact obOk_cell) oks0) (oksk (by exact obOk_cell) oks0) rfl (argOb rfl rfl rfl (argOk' rfl rfl argO0)) (fun o ho => by cases ho) rfl) ?_
  all_goals refine awpOps_cons (op_add rfl rfl rfl (by omega)) ?_
  all_goals refine awpOps_cons (op_build (.cons f58_0 rfl (Conv.of rfl) (.cons f58_1 rfl (Conv.of rfl) (.cons f58_2 rfl (Conv.of rfl) (.nil _)))) z58 rfl pl58 rfl) ?_
  all_goals refine awpOps_cons (op_st ty58 rfl rfl (Conv.of rfl) rfl) ?_
  all_goals refine awpOps_nil ?_
  refine awp_ret ?_
  repeat first | refine rt_seq ?_ | refine rt_block ?_
  refine finO1 [(0, .cell (nx r 3))] (.rc ty58 rfl rfl) (fun o ho => by cases ho) (olk (by show Wt.Obj.cell _ = Wt.Obj.cell _; rw [nx_nx, nx_nx]; rfl) obOk_cell oln) (hS_keys rfl) ?_
  show AV.v _ = AV.v _
  unfold payV
  rw [nx_nx]; rfl
set_option maxHeartbeats 1000000 in
theorem l71Chain_ct (r : Rd) (hp : Far 800000 r) : CtO Tryz.prog 170 [.box 0 (IsLens.whole Rd)] [(0, .cell r)] (.v (chainV r)) [(0, .cell (chainR r))] := by
  have b0 := pk_bd hp (by omega) 7
  have c0 := b0.2 (by omega)
  refine Ct.intro Tryz.func170 rfl rfl ?_
  all_goals refine awp_seq (awp_region (id := 0) ?_)
  all_goals refine awpOps_cons (op_as rfl (Conv.of rfl) rfl) ?_
  all_goals refine awpOps_nil ?_
  all_goals refine awp_seq (awp_region (id := 1) ?_)
  all_goals refine awpOps_cons (op_bsl sl34 z60 (.nil _) rfl (by decide) rfl) ?_
  all_goals refine awpOps_cons (op_asl rfl rfl rfl rfl) ?_
  all_goals refine awpOps_nil ?_
  all_goals refine awp_seq (awp_region (id := 2) ?_)
  all_goals refine awpOps_cons (op_as rfl (Conv.of rfl) rfl) ?_
  all_goals refine awpOps_nil ?_
  all_goals refine awp_seq (awp_seq (awp_region (id := 3) ?_))
  all_goals refine awpOps_cons (op_mv rfl (Conv.of rfl) rfl) ?_
  all_goals refine awpOps_cons (op_callO fb54 (.cons rfl (Conv.of rfl) (.cons rfl (Conv.of rfl) (.nil _))) (pick_ct r 7 (by unfold Far at hp; omega)) (olsk rfl ols0) (oksk (by exact obOk_cell) oks0) (oksk (by exact obOk_cell) oks0) rfl (argOb rfl rfl rfl (argOk' rfl rfl argO0)) (fun o ho => by cases ho) rfl) ?_
  all_goals refine awpOps_cons (op_as rfl (Conv.of rfl) rfl) ?_
  all_goals refine awpOps_nil ?_
  refine awp_block ?_
  refine awp_loop' (fun n_ s => ∃ (k : Nat), ∃ (hk : n_ + k = (pk r 7).toNat), s = mkSt 30 [(0, .box 0 (IsLens.whole Rd)), (3, .v (OList.mk (chIter r k).2.1 true)), (4, .v (chIter r k).1), (5, .v (pk r 7 - (k : Int)))] [(0, .cell (chIter r k).2.2)]) ((pk r 7).toNat) ⟨0, by omega, rfl⟩ (Le.mk rfl (tlb rfl rfl rfl (tle rfl (by rfl) rfl (tle rfl (by rfl) rfl (tle rfl (by (show AV.v _ = AV.v _; congr 1; omega)) rfl tln)))) (olk (by rfl) (by exact obOk_cell) oln) (hS_sub (a := [(0, .cell r)]) rfl)) ?_
  rintro n_ s ⟨k, hk, rfl⟩
  have hk6 : k ≤ 6 := by omega
  have hat := chIter_at hp (by omega) k (by omega)
  have hf0 : Far 800500 (chIter r k).2.2 := by rw [chIter_r]; exact hp.nx (by omega) (by omega)
  have hln := chIter_len r k
  all_goals refine awp_seq (awp_seq (awp_region (id := 4) ?_))
  all_goals refine awpOps_cons (op_mv rfl (Conv.of rfl) rfl) ?_
  all_goals refine awpOps_cons (op_gtr rfl rfl rfl) ?_
  all_goals refine awpOps_nil ?_
  refine awp_cond rfl (fun h => ?_) (fun h => ?_)
  · have hlt : (k : Int) < pk r 7 := by have := of_decide_eq_true h; omega
    generalize hs : chIter r k = s at hat hf0 hln
    have hf1 : Far 800501 (nx s.2.2 1) := hf0.nx (by omega) (by omega)
    have hf2 : Far 800502 (nx (nx s.2.2 1) 1) := hf1.nx (by omega) (by omega)
    have d0 := pk_bd hf0 (by omega) 6
    have d1 := pk_bd hf1 (by omega) 3
    have e0 := d0.2 (by omega)
    have e1 := d1.2 (by omega)
    have hq : IntKind.i64.wrap ((pk s.2.2 6).tdiv 5) = 0 ∨ IntKind.i64.wrap ((pk s.2.2 6).tdiv 5) = 1 := by
      have : (pk s.2.2 6).tdiv 5 = 0 ∨ (pk s.2.2 6).tdiv 5 = 1 := by
        rw [Int.tdiv_eq_ediv_of_nonneg d0.1]; omega
      rw [wrap_in (by omega)]; exact this
    have hm : 0 ≤ IntKind.i64.wrap ((pk s.2.2 6).tdiv 5) * pk (nx s.2.2 1) 3 ∧ IntKind.i64.wrap ((pk s.2.2 6).tdiv 5) * pk (nx s.2.2 1) 3 ≤ 2 := by
      rcases hq with hq | hq <;> rw [hq] <;> omega
    refine awp_skip ?_
    refine awp_seq (awp_block ?_)
    all_goals refine awp_seq (awp_region (id := 6) ?_)
    all_goals refine awpOps_cons (op_mv rfl (Conv.of rfl) rfl) ?_
    all_goals refine awpOps_cons (op_add rfl rfl rfl (by omega)) ?_
    all_goals refine awpOps_cons (op_mv rfl (Conv.of rfl) rfl) ?_
    all_goals refine awpOps_cons (op_callO fb54 (.cons rfl (Conv.of rfl) (.cons rfl (Conv.of rfl) (.nil _))) (pick_ct s.2.2 6 (by unfold Far at hf0; omega)) (olsk rfl ols0) (oksk (by exact obOk_cell) oks0) (oksk (by exact obOk_cell) oks0) rfl (argOb rfl rfl rfl (argOk' rfl rfl argO0)) (fun o ho => by cases ho) rfl) ?_
    all_goals refine awpOps_cons (op_quo rfl rfl rfl (by decide)) ?_
    all_goals refine awpOps_cons (op_mv rfl (Conv.of rfl) rfl) ?_
    all_goals refine awpOps_cons (op_callO fb54 (.cons rfl (Conv.of rfl) (.cons rfl (Conv.of rfl) (.nil _))) (pick_ct (nx s.2.2 1) 3 (by unfold Far at hf1; omega)) (olsk rfl ols0) (oksk (by exact obOk_cell) oks0) (oksk (by exact obOk_cell) oks0) rfl (argOb rfl rfl rfl (argOk' rfl rfl argO0)) (fun o ho => by cases ho) rfl) ?_
    all_goals refine awpOps_cons (op_mul rfl rfl rfl (by omega)) ?_
    all_goals refine awpOps_cons (op_add rfl rfl rfl (by omega)) ?_
    all_goals refine awpOps_cons (op_as rfl (Conv.of rfl) rfl) ?_
    all_goals refine awpOps_nil ?_
    all_goals refine awp_region (id := 7) ?_
    all_goals refine awpOps_cons (op_mvl rfl rfl rfl rfl) ?_
    all_goals refine awpOps_cons (op_mv rfl (Conv.of rfl) rfl) ?_
    all_goals refine awpOps_cons (op_mv rfl (Conv.of rfl) rfl) ?_
    all_goals refine awpOps_cons (op_callO fb87 (.cons rfl (Conv.of rfl) (.nil _)) (l71Pay_ct (nx (nx s.2.2 1) 1) (hf2.weak (by omega))) (olsk rfl ols0) (oksk (by exact obOk_cell) oks0) (oksk (by exact obOk_cell) oks0) rfl (argOb rfl rfl rfl argO0) (fun o ho => by cases ho) rfl) ?_
    all_goals refine awpOps_cons (op_build (.cons f60_0 rfl (Conv.of rfl) (.cons f60_1 rfl (Conv.of rfl) (.nil _))) z60 rfl pl60 rfl) ?_
    all_goals refine awpOps_cons (op_bsl sl34 z60 (.cons rfl (Conv.of rfl) (.nil _)) rfl (by decide) rfl) ?_
    all_goals refine awpOps_cons (op_app sl34 z60 ul34 rfl rfl rfl (by (simp; omega)) (by (simp; omega)) rfl rfl) ?_
    all_goals refine awpOps_cons (op_asl rfl rfl rfl rfl) ?_
    all_goals refine awpOps_nil ?_
    all_goals refine awp_region (id := 5) ?_
    all_goals refine awpOps_cons (op_mv rfl (Conv.of rfl) rfl) ?_
    all_goals refine awpOps_cons (op_sub rfl rfl rfl (by omega)) ?_
    all_goals refine awpOps_cons (op_as rfl (Conv.of rfl) rfl) ?_
    all_goals refine awpOps_nil ?_
    subst hs
    repeat first | refine nx_seq ?_ | refine nx_block ?_
    exact ⟨n_ - 1, _, by omega, ⟨k + 1, by omega, rfl⟩, Le.mk rfl (tlb rfl rfl rfl (tle rfl (by (show AV.v _ = AV.v _; simp only [chIter, chStep, nx_nx]; rfl)) rfl (tle rfl (by rfl) rfl (tle rfl (by (show AV.v _ = AV.v _; congr 1; omega)) rfl tln)))) (olk (by (show Wt.Obj.cell _ = Wt.Obj.cell _; simp only [chIter, chStep, nx_nx]; rfl)) (by exact obOk_cell) oln) (hS_sub (a := [(0, .cell r)]) rfl)⟩
  · refine awp_exit ?_
    repeat refine ex_seq ?_
    refine ex_block ?_
    have hge : pk r 7 - (k : Int) ≤ 0 := by have := of_decide_eq_false h; omega
    have hk' : k = (pk r 7).toNat := by omega
    all_goals refine awp_seq (awp_region (id := 8) ?_)
    all_goals refine awpOps_cons (op_mvl rfl rfl rfl rfl) ?_
    all_goals refine awpOps_cons (op_asl rfl rfl rfl rfl) ?_
    all_goals refine awpOps_nil ?_
    refine awp_ret ?_
    repeat first | refine rt_seq ?_ | refine rt_block ?_
    subst hk'
    exact finO1 [(0, .cell (chainR r))] (.v rfl Conv.ol) (fun o ho => by cases ho) (olk rfl obOk_cell oln) (hS_keys rfl) rfl
/-- What is drawn for a world. -/
abbrev ro (r : Rd) (w : Wrld) : List (Nat × Wt.Obj) := [(0, .cell r), (1, .arr (w.nodes.map sN))]
set_option maxHeartbeats 4000000 in
theorem l72Forge_ct (r : Rd) (w : Wrld) (hw : FineX w) (hp : Far 700000 r) : Ct Tryz.prog 154 [.box 0 (IsLens.whole Rd), .v (fW w)] (obs (ro r w)) (fun r1 h1 => ∃ (v : Vote) (r' : Rd), r1 = .v v ∧ h1 = obs (ro r' w) ∧ v.chain.length ≤ 100 ∧ r.p ≤ r'.p ∧ r'.p ≤ r.p + 100) := by
  have h4 := hw.four
  have hgl := hw.fine.log
  have hgll := hgl.len
  have hln : ((w.nodes.map sN).length : Int) = 4 := by simp [h4]
  refine Ct.intro Tryz.func154 rfl rfl ?_
  all_goals refine awp_seq (awp_region (id := 0) ?_)
  all_goals refine awpOps_cons (op_box (o := 5) ty29_WrldS rfl (Conv.of rfl) rfl rfl) ?_
  all_goals refine awpOps_cons (op_alloc (o := 6) z48 rfl rfl) ?_
  all_goals refine awpOps_nil ?_
  all_goals refine awp_seq (awp_region (id := 1) ?_)
  all_goals refine awpOps_cons (op_mv rfl (Conv.of rfl) rfl) ?_
  all_goals refine awpOps_cons (op_callO fb170 (.cons rfl (Conv.of rfl) (.nil _)) (l71Chain_ct r (hp.weak (by omega))) (olsk rfl ols0) (oksk (by exact obOk_cell) oks0) (oksk (by exact obOk_cell) oks0) rfl (argOb rfl rfl rfl argO0) (fun o ho => by cases ho) rfl) ?_
  all_goals refine awpOps_cons (op_as rfl (Conv.of rfl) rfl) ?_
  all_goals refine awpOps_nil ?_
  have hf1 := chainR_far hp (by omega)
  have hcl := chainV_len hp (by omega)
  have hr1 : r.p ≤ (chainR r).p ∧ (chainR r).p ≤ r.p + 31 := by
    have := (pk_bd hp (by omega) 7).2 (by omega)
    have := (pk_bd hp (by omega) 7).1
    rw [chainR_eq]; simp only [nx]; omega
  generalize chainR r = r1 at *
  generalize chainV r = c1 at *
  refine awp_seq_ex (ι := List Itm × Rd) (fun i => mkSt 54 [(0, .box 0 (IsLens.whole Rd)), (3, .box 5 (IsLens.whole WrldS)), (4, .box 6 (IsLens.whole Vote)), (5, .v i.1)] [(0, .cell i.2), (1, .arr (w.nodes.map sN)), (5, .cell (fW w)), (6, .cell Vote.zero)]) (fun i => i.1.length ≤ 50 ∧ r.p ≤ i.2.p ∧ i.2.p ≤ r.p + 40) ?_ ?_
  · have hk1 := pk_bd hf1 (by omega) 4
    all_goals refine awp_seq (awp_region (id := 2) ?_)
    all_goals refine awpOps_cons (op_fab f29_2_WrldS rfl rfl) ?_
    all_goals refine awpOps_cons (op_ldl ty27_OListVote rfl rfl rfl) ?_
    all_goals refine awpOps_cons (op_len sl27 rfl rfl) ?_
    all_goals refine awpOps_cons (op_gtr rfl rfl rfl) ?_
    all_goals refine awpOps_cons (op_mv rfl (Conv.of rfl) rfl) ?_
    all_goals refine g_split (t := 13) rfl (fun h => ?_) (fun h => ?_)
    all_goals first | refine awpOps_cons (g_off rfl rfl rfl rfl rfl) ?_ | refine awpOps_cons (g_on rfl rfl rfl (op_mv rfl (Conv.of rfl) rfl)) ?_
    all_goals first | refine awpOps_cons (g_off rfl rfl rfl rfl rfl) ?_ | refine awpOps_cons (g_on rfl rfl rfl (op_callO fb54 (.cons rfl (Conv.of rfl) (.cons rfl (Conv.of rfl) (.nil _))) (pick_ct r1 4 (by unfold Far at hf1; omega)) (olsk rfl ols0) (oksk (by exact obOk_cell) oks0) (oksk (by exact obOk_cell) oks0) rfl (argOb rfl rfl rfl (argOk' rfl rfl argO0)) (fun o ho => by cases ho) rfl)) ?_
    all_goals first | refine awpOps_cons (g_off rfl rfl rfl rfl rfl) ?_ | refine awpOps_cons (g_on rfl rfl rfl (op_gtr rfl rfl rfl)) ?_
    all_goals refine awpOps_cons (op_pick rfl rfl rfl rfl) ?_
    all_goals refine awpOps_nil ?_
    · refine awp_cond rfl (fun h2 => ?_) (fun h2 => ?_)
      · have hlg : 0 < w.log.length := by have := of_decide_eq_true h; simpa [fW] using this
        have hf2 : Far (700000 + 32) (nx r1 1) := hf1.nx (by omega) (by omega)
        have hk2 := pk_bd hf2 (by omega) (w.log.length : Int)
        have hk3 := hk2.2 (by omega)
        have hv : w.log[(pk (nx r1 1) (w.log.length : Int)).toNat]? = some (w.log[(pk (nx r1 1) (w.log.length : Int)).toNat]'(by omega)) := List.getElem?_eq_getElem (by omega)
        generalize hvv : w.log[(pk (nx r1 1) (w.log.length : Int)).toNat]'(by omega) = v at hv
        have hvo := hgl.ok v (List.mem_of_getElem? hv)
        have hvc := chainOk_len (voteOk_chain hvo)
        all_goals refine dr_start (id := 3) ?_
        all_goals refine dr_cons (op_fab f29_2_WrldS rfl rfl) ?_
        all_goals refine dr_cons (op_ldl ty27_OListVote rfl rfl rfl) ?_
        all_goals refine dr_cons (op_mv rfl (Conv.of rfl) rfl) ?_
        all_goals refine dr_cons (op_fab f29_2_WrldS rfl rfl) ?_
        all_goals refine dr_cons (op_ldl ty27_OListVote rfl rfl rfl) ?_
        all_goals refine dr_cons (op_len sl27 rfl rfl) ?_
        all_goals refine dr_cons (op_callO fb54 (.cons rfl (Conv.of rfl) (.cons rfl (Conv.of rfl) (.nil _))) (pick_ct (nx r1 1) (w.log.length : Int) (by unfold Far at hf2; omega)) (olsk rfl ols0) (oksk (by exact obOk_cell) oks0) (oksk (by exact obOk_cell) oks0) rfl (argOb rfl rfl rfl (argOk' rfl rfl argO0)) (fun o ho => by cases ho) rfl) ?_
        all_goals refine dr_cons (op_ix sl27 rfl rfl rfl hk2.1 hv) ?_
        all_goals refine dr_cons (op_far f48_1 rfl rfl) ?_
        all_goals refine dr_cons (op_ldr ty34 rfl rfl) ?_
        all_goals refine dr_cons (op_call fb100 (.cons rfl (Conv.of rfl) (.nil _)) (l1Copy_ct v.chain (by omega)) (argOk rfl rfl argOk0) rfl rfl) ?_
        all_goals refine dr_cons (op_asl rfl rfl rfl rfl) ?_
        all_goals refine dr_nil mixed rfl ?_
        exact nx_seq ⟨(v.chain, nx (nx r1 1) 1), ⟨by show v.chain.length ≤ 50; omega, by simp only [nx]; omega, by simp only [nx]; omega⟩, Le.mk rfl (tlb rfl rfl rfl (tlb rfl rfl rfl (tlb rfl rfl rfl (tlc rfl (Conv.ol) rfl tln)))) (olk rfl (by exact obOk_cell) (olk rfl (by exact obOkNs) (olk rfl (by exact obOkS rfl) (olk rfl (by exact obOk_cell) oln)))) (hS_sub (a := ro r w) rfl)⟩
      · refine awp_skip ?_
        exact nx_seq ⟨(c1, nx r1 1), ⟨by show c1.length ≤ 50; omega, by simp only [nx]; omega, by simp only [nx]; omega⟩, Le.mk rfl (tlb rfl rfl rfl (tlb rfl rfl rfl (tlb rfl rfl rfl (tle rfl (rfl) rfl tln)))) (olk rfl (by exact obOk_cell) (olk rfl (by exact obOkNs) (olk rfl (by exact obOkS rfl) (olk rfl (by exact obOk_cell) oln)))) (hS_sub (a := ro r w) rfl)⟩
    · refine awp_cond rfl (fun h2 => absurd h2 (by decide)) (fun h2 => ?_)
      refine awp_skip ?_
      exact nx_seq ⟨(c1, r1), ⟨by show c1.length ≤ 50; omega, hr1.1, by show r1.p ≤ r.p + 40; omega⟩, Le.mk rfl (tlb rfl rfl rfl (tlb rfl rfl rfl (tlb rfl rfl rfl (tle rfl (rfl) rfl tln)))) (olk rfl (by exact obOk_cell) (olk rfl (by exact obOkNs) (olk rfl (by exact obOkS rfl) (olk rfl (by exact obOk_cell) oln)))) (hS_sub (a := ro r w) rfl)⟩
  · rintro ⟨c2, r2⟩ ⟨g1, g2, g3⟩
    simp only at g1 g2 g3 ⊢
    have hf2 : Far (700000 + 40) r2 := by unfold Far at hp ⊢; omega
    refine awp_seq_ex (ι := List Itm × Rd) (fun i => mkSt 54 [(0, .box 0 (IsLens.whole Rd)), (3, .box 5 (IsLens.whole WrldS)), (4, .box 6 (IsLens.whole Vote)), (5, .v i.1)] [(0, .cell i.2), (1, .arr (w.nodes.map sN)), (5, .cell (fW w)), (6, .cell Vote.zero)]) (fun i => i.1.length ≤ 60 ∧ r.p ≤ i.2.p ∧ i.2.p ≤ r.p + 50) ?_ ?_
    · all_goals refine awp_seq (awp_region (id := 4) ?_)
      all_goals refine awpOps_cons (op_mv rfl (Conv.of rfl) rfl) ?_
      all_goals refine awpOps_cons (op_callO fb54 (.cons rfl (Conv.of rfl) (.cons rfl (Conv.of rfl) (.nil _))) (pick_ct r2 2 (by unfold Far at hf2; omega)) (olsk rfl ols0) (oksk (by exact obOk_cell) oks0) (oksk (by exact obOk_cell) oks0) rfl (argOb rfl rfl rfl (argOk' rfl rfl argO0)) (fun o ho => by cases ho) rfl) ?_
      all_goals refine awpOps_cons (op_eql rfl rfl rfl) ?_
      all_goals refine awpOps_nil ?_
      refine awp_cond rfl (fun h2 => ?_) (fun h2 => ?_)
      · have hf3 : Far (700000 + 41) (nx r2 1) := hf2.nx (by omega) (by omega)
        have hf4 : Far (700000 + 42) (nx (nx r2 1) 1) := hf3.nx (by omega) (by omega)
        have hk2 := pk_bd hf3 (by omega) 4
        have hk3 := hk2.2 (by omega)
        have hlt : (pk (nx r2 1) 4).toNat < w.nodes.length := by omega
        have hx : w.nodes[(pk (nx r2 1) 4).toNat]? = some w.nodes[(pk (nx r2 1) 4).toNat] := List.getElem?_eq_getElem hlt
        generalize hnn : w.nodes[(pk (nx r2 1) 4).toNat] = n at hx
        have hx' : (w.nodes.map sN)[(pk (nx r2 1) 4).toNat]? = some (sN n) := by rw [List.getElem?_map, hx]; rfl
        have hgd := hw.fine.seen n (List.mem_of_getElem? hx)
        have htip := hgd.tipS
        all_goals refine awp_seq (dr_start (id := 5) ?_)
        all_goals refine dr_cons (op_fab f29_1_WrldS rfl rfl) ?_
        all_goals refine dr_cons (op_ld ty26_NRef rfl rfl rfl) ?_
        all_goals refine dr_cons (op_mv rfl (Conv.of rfl) rfl) ?_
        all_goals refine dr_cons (op_callO fb54 (.cons rfl (Conv.of rfl) (.cons rfl (Conv.of rfl) (.nil _))) (pick_ct (nx r2 1) 4 (by unfold Far at hf3; omega)) (olsk rfl ols0) (oksk (by exact obOk_cell) oks0) (oksk (by exact obOk_cell) oks0) rfl (argOb rfl rfl rfl (argOk' rfl rfl argO0)) (fun o ho => by cases ho) rfl) ?_
        all_goals refine dr_cons (op_ixA sl26_NodS rfl rfl rfl rfl ⟨hk2.1, by omega⟩) ?_
        all_goals refine dr_cons (op_ldde ty41_NodS rfl rfl hx' rfl) ?_
        all_goals refine dr_cons (op_alloc (o := 7) z41_NodS rfl rfl) ?_
        all_goals refine dr_cons (op_st ty41_NodS rfl rfl (Conv.of rfl) rfl) ?_
        all_goals refine dr_nil mixed rfl ?_
        all_goals refine dr_start (id := 6) ?_
        all_goals refine dr_cons (op_fab f41_3_NodS rfl rfl) ?_
        all_goals refine dr_cons (op_ldl ty27_OListVote rfl rfl rfl) ?_
        all_goals refine dr_cons (op_call fb101 (.cons rfl (Conv.of rfl) (.nil _)) (l11Tip_ct n.seen hgd.l hgd.v) (argOk rfl rfl argOk0) rfl rfl) ?_
        all_goals refine dr_cons (op_call fb100 (.cons rfl (Conv.of rfl) (.nil _)) (l1Copy_ct (tipOfS n.seen) (by omega)) (argOk rfl rfl argOk0) rfl rfl) ?_
        all_goals refine dr_cons (op_fab f29_0_WrldS rfl rfl) ?_
        all_goals refine dr_cons (op_ld ty3 rfl rfl rfl) ?_
        all_goals refine dr_cons (op_max rfl rfl rfl) ?_
        all_goals refine dr_cons (op_mv rfl (Conv.of rfl) rfl) ?_
        all_goals refine dr_cons (op_callO fb87 (.cons rfl (Conv.of rfl) (.nil _)) (l71Pay_ct (nx (nx r2 1) 1) (hf4.weak (by omega))) (olsk rfl ols0) (oksk (by exact obOk_cell) oks0) (oksk (by exact obOk_cell) oks0) rfl (argOb rfl rfl rfl argO0) (fun o ho => by cases ho) rfl) ?_
        all_goals refine dr_cons (op_build (.cons f60_0 rfl (Conv.of rfl) (.cons f60_1 rfl (Conv.of rfl) (.nil _))) z60 rfl pl60 rfl) ?_
        all_goals refine dr_cons (op_bsl sl34 z60 (.cons rfl (Conv.of rfl) (.nil _)) rfl (by decide) rfl) ?_
        all_goals refine dr_cons (op_app sl34 z60 ul34 rfl rfl rfl (by (simp; omega)) (by (simp; omega)) rfl rfl) ?_
        all_goals refine dr_cons (op_asl rfl rfl rfl rfl) ?_
        all_goals refine dr_nil mixed rfl ?_
        exact nx_seq ⟨(tipOfS n.seen ++ [⟨max w.epoch 1, payV (nx (nx r2 1) 1)⟩], nx (nx (nx r2 1) 1) 3), ⟨by simp; omega, by simp only [nx]; omega, by simp only [nx]; omega⟩, Le.mk rfl (tlb rfl rfl rfl (tlb rfl rfl rfl (tlb rfl rfl rfl (tlc rfl (Conv.ol) rfl tln)))) (olk rfl (by exact obOk_cell) (olk rfl (by exact obOkNs) (olk rfl (by exact obOkS rfl) (olk rfl (by exact obOk_cell) oln)))) (hS_sub (a := ro r w) rfl)⟩
      · refine awp_skip ?_
        exact nx_seq ⟨(c2, nx r2 1), ⟨by show c2.length ≤ 60; omega, by simp only [nx]; omega, by simp only [nx]; omega⟩, Le.mk rfl (tlb rfl rfl rfl (tlb rfl rfl rfl (tlb rfl rfl rfl (tle rfl (rfl) rfl tln)))) (olk rfl (by exact obOk_cell) (olk rfl (by exact obOkNs) (olk rfl (by exact obOkS rfl) (olk rfl (by exact obOk_cell) oln)))) (hS_sub (a := ro r w) rfl)⟩
    · rintro ⟨c3, r3⟩ ⟨k1, k2, k3⟩
      simp only at k1 k2 k3 ⊢
      all_goals refine awp_seq (awp_region (id := 7) ?_)
      all_goals refine awpOps_cons (op_fab f29_3_WrldS rfl rfl) ?_
      all_goals refine awpOps_cons (op_ld ty3 rfl rfl rfl) ?_
      all_goals refine awpOps_cons (op_mv rfl (Conv.of rfl) rfl) ?_
      all_goals refine awpOps_cons (op_build (.cons f48_0 rfl (Conv.of rfl) (.cons f48_1 rfl (Conv.of rfl) (.nil _))) z48 rfl pl48 rfl) ?_
      all_goals refine awpOps_cons (op_st ty48 rfl rfl (Conv.of rfl) rfl) ?_
      all_goals refine awpOps_nil ?_
      refine awp_ret ?_
      repeat first | refine rt_seq ?_ | refine rt_block ?_
      refine ⟨_, _, res1 (ol := ro r3 w) (.rc ty48 rfl rfl) (fun o ho => by cases ho) (olk rfl obOk_cell (olk rfl obOkNs oln)) (hS_keys rfl), _, r3, rfl, rfl, ?_, k2, by omega⟩
      show c3.length ≤ 100
      omega
end Go.Proofs.YtmdhfalfppkpeaaGreat

/- The reference: draws of events. -/
set_option linter.unusedVariables false
set_option linter.unusedSimpArgs false
namespace Go.Proofs.YtmdhfalfppkpeaaGreat
open Go Go.Wt
set_option maxHeartbeats 4000000 in
theorem l72Event_ct (r : Rd) (w : Wrld) (hw : FineX w) (hp : Far 600000 r) : Ct Tryz.prog 109 [.box 0 (IsLens.whole Rd), .v (fW w)] (obs (ro r w)) (fun r1 h1 => ∃ (e : Evt) (r' : Rd), r1 = .v e ∧ h1 = obs (ro r' w) ∧ r.p ≤ r'.p ∧ r'.p ≤ r.p + 120) := by
  have hep := hw.ep
  have hgll := hw.ll
  have hb8 := pk_bd hp (by omega) 8
  refine Ct.intro Tryz.func109 rfl rfl ?_
  all_goals refine awp_seq (awp_region (id := 0) ?_)
  all_goals refine awpOps_cons (op_box (o := 5) ty29_WrldS rfl (Conv.of rfl) rfl rfl) ?_
  all_goals refine awpOps_cons (op_alloc (o := 6) z78 rfl rfl) ?_
  all_goals refine awpOps_nil ?_
  all_goals refine awp_seq (awp_region (id := 1) ?_)
  all_goals refine awpOps_cons (op_fab f29_2_WrldS rfl rfl) ?_
  all_goals refine awpOps_cons (op_ldl ty27_OListVote rfl rfl rfl) ?_
  all_goals refine awpOps_cons (op_len sl27 rfl rfl) ?_
  all_goals refine awpOps_cons (op_as rfl (Conv.of rfl) rfl) ?_
  all_goals refine awpOps_nil ?_
  refine awp_seq_ex (ι := Rd) (fun i => mkSt 64 [(0, .box 0 (IsLens.whole Rd)), (3, .box 5 (IsLens.whole WrldS)), (4, .box 6 (IsLens.whole Evt))] [(0, .cell i), (1, .arr (w.nodes.map sN)), (5, .cell (fW w)), (6, .cell Evt.zero)]) (fun i => r.p ≤ i.p ∧ i.p ≤ r.p + 1) ?_ ?_
  · all_goals refine awp_seq (awp_region (id := 2) ?_)
    all_goals refine awpOps_cons (op_mv rfl (Conv.of rfl) rfl) ?_
    all_goals refine awpOps_cons (op_gtr rfl rfl rfl) ?_
    all_goals refine awpOps_cons (op_mv rfl (Conv.of rfl) rfl) ?_
    all_goals refine g_split (t := 12) rfl (fun h => ?_) (fun h => ?_)
    all_goals first | refine awpOps_cons (g_off rfl rfl rfl rfl rfl) ?_ | refine awpOps_cons (g_on rfl rfl rfl (op_mv rfl (Conv.of rfl) rfl)) ?_
    all_goals first | refine awpOps_cons (g_off rfl rfl rfl rfl rfl) ?_ | refine awpOps_cons (g_on rfl rfl rfl (op_callO fb54 (.cons rfl (Conv.of rfl) (.cons rfl (Conv.of rfl) (.nil _))) (pick_ct r 8 (by unfold Far at hp; omega)) (olsk rfl ols0) (oksk (by exact obOk_cell) oks0) (oksk (by exact obOk_cell) oks0) rfl (argOb rfl rfl rfl (argOk' rfl rfl argO0)) (fun o ho => by cases ho) rfl)) ?_
    all_goals first | refine awpOps_cons (g_off rfl rfl rfl rfl rfl) ?_ | refine awpOps_cons (g_on rfl rfl rfl (op_lss rfl rfl rfl)) ?_
    all_goals refine awpOps_cons (op_pick rfl rfl rfl rfl) ?_
    all_goals refine awpOps_nil ?_
    · refine awp_cond rfl (fun h2 => ?_) (fun h2 => ?_)
      · have hlg : 0 < w.log.length := by have := of_decide_eq_true h; simpa [fW] using this
        have hf1 : Far 600001 (nx r 1) := hp.nx (by omega) (by omega)
        have hf2 : Far 600002 (nx (nx r 1) 1) := hf1.nx (by omega) (by omega)
        have hf3 : Far 600003 (nx (nx (nx r 1) 1) 1) := hf2.nx (by omega) (by omega)
        have k1 := pk_bd hf1 (by omega) (min (w.log.length : Int) 6)
        have k2 := k1.2 (by omega)
        have k3 := pk_bd hf3 (by omega) (w.log.length : Int)
        have k4 := k3.2 (by omega)
        all_goals refine awp_seq (awp_region (id := 3) ?_)
        all_goals refine awpOps_cons (op_mv rfl (Conv.of rfl) rfl) ?_
        all_goals refine awpOps_cons (op_sub rfl rfl rfl (by (simp only [fW]; omega))) ?_
        all_goals refine awpOps_cons (op_mv rfl (Conv.of rfl) rfl) ?_
        all_goals refine awpOps_cons (op_mv rfl (Conv.of rfl) rfl) ?_
        all_goals refine awpOps_cons (op_min rfl rfl rfl) ?_
        all_goals refine awpOps_cons (op_callO fb54 (.cons rfl (Conv.of rfl) (.cons rfl (Conv.of rfl) (.nil _))) (pick_ct (nx r 1) (min (w.log.length : Int) 6) (by unfold Far at hf1; omega)) (olsk rfl ols0) (oksk (by exact obOk_cell) oks0) (oksk (by exact obOk_cell) oks0) rfl (argOb rfl rfl rfl (argOk' rfl rfl argO0)) (fun o ho => by cases ho) rfl) ?_
        all_goals refine awpOps_cons (op_sub rfl rfl rfl (by (simp only [fW]; omega))) ?_
        all_goals refine awpOps_cons (op_as rfl (Conv.of rfl) rfl) ?_
        all_goals refine awpOps_nil ?_
        refine awp_seq_ex (ι := Int × Rd) (fun i => mkSt 64 [(0, .box 0 (IsLens.whole Rd)), (3, .box 5 (IsLens.whole WrldS)), (4, .box 6 (IsLens.whole Evt)), (6, .v i.1)] [(0, .cell i.2), (1, .arr (w.nodes.map sN)), (5, .cell (fW w)), (6, .cell Evt.zero)]) (fun i => r.p ≤ i.2.p ∧ i.2.p ≤ r.p + 4) ?_ ?_
        · all_goals refine awp_seq (awp_region (id := 4) ?_)
          all_goals refine awpOps_cons (op_mv rfl (Conv.of rfl) rfl) ?_
          all_goals refine awpOps_cons (op_callO fb54 (.cons rfl (Conv.of rfl) (.cons rfl (Conv.of rfl) (.nil _))) (pick_ct (nx (nx r 1) 1) 4 (by unfold Far at hf2; omega)) (olsk rfl ols0) (oksk (by exact obOk_cell) oks0) (oksk (by exact obOk_cell) oks0) rfl (argOb rfl rfl rfl (argOk' rfl rfl argO0)) (fun o ho => by cases ho) rfl) ?_
          all_goals refine awpOps_cons (op_eql rfl rfl rfl) ?_
          all_goals refine awpOps_nil ?_
          refine awp_cond rfl (fun h2 => ?_) (fun h2 => ?_)
          · all_goals refine awp_region (id := 5) ?_
            all_goals refine awpOps_cons (op_mv rfl (Conv.of rfl) rfl) ?_
            all_goals refine awpOps_cons (op_mv rfl (Conv.of rfl) rfl) ?_
            all_goals refine awpOps_cons (op_callO fb54 (.cons rfl (Conv.of rfl) (.cons rfl (Conv.of rfl) (.nil _))) (pick_ct (nx (nx (nx r 1) 1) 1) (w.log.length : Int) (by unfold Far at hf3; omega)) (olsk rfl ols0) (oksk (by exact obOk_cell) oks0) (oksk (by exact obOk_cell) oks0) rfl (argOb rfl rfl rfl (argOk' rfl rfl argO0)) (fun o ho => by cases ho) rfl) ?_
            all_goals refine awpOps_cons (op_as rfl (Conv.of rfl) rfl) ?_
            all_goals refine awpOps_nil ?_
            exact nx_seq ⟨(_, nx (nx (nx (nx r 1) 1) 1) 1), ⟨by simp only [nx]; omega, by simp only [nx]; omega⟩, Le.mk rfl (tlb rfl rfl rfl (tlb rfl rfl rfl (tlb rfl rfl rfl (tle rfl (rfl) rfl tln)))) (olk rfl (by exact obOk_cell) (olk rfl (by exact obOkNs) (olk rfl (by exact obOkS rfl) (olk rfl (by exact obOk_cell) oln)))) (hS_sub (a := ro r w) rfl)⟩
          · refine awp_skip ?_
            exact nx_seq ⟨(_, nx (nx (nx r 1) 1) 1), ⟨by simp only [nx]; omega, by simp only [nx]; omega⟩, Le.mk rfl (tlb rfl rfl rfl (tlb rfl rfl rfl (tlb rfl rfl rfl (tle rfl (rfl) rfl tln)))) (olk rfl (by exact obOk_cell) (olk rfl (by exact obOkNs) (olk rfl (by exact obOkS rfl) (olk rfl (by exact obOk_cell) oln)))) (hS_sub (a := ro r w) rfl)⟩
        · rintro ⟨a, r2⟩ ⟨g1, g2⟩
          simp only at g1 g2 ⊢
          have hf4 : Far 600005 r2 := by unfold Far at hp ⊢; omega
          have k5 := pk_bd hf4 (by omega) 4
          have k6 := k5.2 (by omega)
          all_goals refine awp_seq (awp_region (id := 6) ?_)
          all_goals refine awpOps_cons (op_mv rfl (Conv.of rfl) rfl) ?_
          all_goals refine awpOps_cons (op_mv rfl (Conv.of rfl) rfl) ?_
          all_goals refine awpOps_cons (op_callO fb54 (.cons rfl (Conv.of rfl) (.cons rfl (Conv.of rfl) (.nil _))) (pick_ct r2 4 (by unfold Far at hf4; omega)) (olsk rfl ols0) (oksk (by exact obOk_cell) oks0) (oksk (by exact obOk_cell) oks0) rfl (argOb rfl rfl rfl (argOk' rfl rfl argO0)) (fun o ho => by cases ho) rfl) ?_
          all_goals refine awpOps_cons (op_add rfl rfl rfl (by omega)) ?_
          all_goals refine awpOps_cons (op_build (.cons f78_0 rfl (Conv.of rfl) (.cons f78_1 rfl (Conv.of rfl) (.cons f78_2 rfl (Conv.of rfl) (.nil _)))) z78 rfl pl78 rfl) ?_
          all_goals refine awpOps_cons (op_st ty78 rfl rfl (Conv.of rfl) rfl) ?_
          all_goals refine awpOps_nil ?_
          refine awp_ret ?_
          repeat first | refine rt_seq ?_ | refine rt_block ?_
          refine ⟨_, _, res1 (ol := ro (nx r2 1) w) (.rc ty78 rfl rfl) (fun o ho => by cases ho) (olk rfl obOk_cell (olk rfl obOkNs oln)) (hS_keys rfl), _, nx r2 1, rfl, rfl, by simp only [nx]; omega, by simp only [nx]; omega⟩
      · refine awp_skip ?_
        exact nx_seq ⟨nx r 1, ⟨by simp only [nx]; omega, by simp only [nx]; omega⟩, Le.mk rfl (tlb rfl rfl rfl (tlb rfl rfl rfl (tlb rfl rfl rfl tln))) (olk rfl (by exact obOk_cell) (olk rfl (by exact obOkNs) (olk rfl (by exact obOkS rfl) (olk rfl (by exact obOk_cell) oln)))) (hS_sub (a := ro r w) rfl)⟩
    · refine awp_cond rfl (fun h2 => absurd h2 (by decide)) (fun h2 => ?_)
      refine awp_skip ?_
      exact nx_seq ⟨r, ⟨by omega, by omega⟩, Le.mk rfl (tlb rfl rfl rfl (tlb rfl rfl rfl (tlb rfl rfl rfl tln))) (olk rfl (by exact obOk_cell) (olk rfl (by exact obOkNs) (olk rfl (by exact obOkS rfl) (olk rfl (by exact obOk_cell) oln)))) (hS_sub (a := ro r w) rfl)⟩
  · rintro r2 ⟨g1, g2⟩
    have hf2 : Far 600001 r2 := by unfold Far at hp ⊢; omega
    have k5 := pk_bd hf2 (by omega) 8
    have k6 := k5.2 (by omega)
    have hf3 : Far 600002 (nx r2 1) := hf2.nx (by omega) (by omega)
    have hf4 : Far 600003 (nx (nx r2 1) 1) := hf3.nx (by omega) (by omega)
    have k7 := pk_bd hf3 (by omega) 4
    have k8 := k7.2 (by omega)
    all_goals refine awp_seq (awp_seq (awp_region (id := 7) ?_))
    all_goals refine awpOps_cons (op_mv rfl (Conv.of rfl) rfl) ?_
    all_goals refine awpOps_cons (op_callO fb54 (.cons rfl (Conv.of rfl) (.cons rfl (Conv.of rfl) (.nil _))) (pick_ct r2 8 (by unfold Far at hf2; omega)) (olsk rfl ols0) (oksk (by exact obOk_cell) oks0) (oksk (by exact obOk_cell) oks0) rfl (argOb rfl rfl rfl (argOk' rfl rfl argO0)) (fun o ho => by cases ho) rfl) ?_
    all_goals refine awpOps_nil ?_
    generalize pk r2 8 = k at k5 k6 ⊢
    refine awp_block ?_
    all_goals refine awp_seq (awp_seq (awp_region (id := 8) ?_))
    all_goals refine awpOps_cons (op_eql rfl rfl rfl) ?_
    all_goals refine awpOps_cons (op_as rfl (Conv.of rfl) rfl) ?_
    all_goals refine awpOps_nil ?_
    refine nx_seq ?_
    refine awp_to (s' := mkSt 64 [(0, .box 0 (IsLens.whole Rd)), (3, .box 5 (IsLens.whole WrldS)), (4, .box 6 (IsLens.whole Evt)), (36, .v k), (37, .v (decide (k = 0) || decide (k = 1)))] [(0, .cell (nx r2 1)), (1, .arr (w.nodes.map sN)), (5, .cell (fW w)), (6, .cell Evt.zero)]) ?_ ?_
    · refine awp_cond rfl (fun h2 => ?_) (fun h2 => ?_)
      · refine awp_skip ?_
        all_goals exact Le.mk rfl (tlb rfl rfl rfl (tlb rfl rfl rfl (tlb rfl rfl rfl (tle rfl (rfl) rfl (tle rfl (by (simp_all; try rfl)) rfl tln))))) (olk rfl (by exact obOk_cell) (olk rfl (by exact obOkNs) (olk rfl (by exact obOkS rfl) (olk rfl (by exact obOk_cell) oln)))) (hS_sub (a := ro r w) rfl)
      · all_goals refine awp_region (id := 9) ?_
        all_goals refine awpOps_cons (op_eql rfl rfl rfl) ?_
        all_goals refine awpOps_cons (op_as rfl (Conv.of rfl) rfl) ?_
        all_goals refine awpOps_nil ?_
        all_goals exact Le.mk rfl (tlb rfl rfl rfl (tlb rfl rfl rfl (tlb rfl rfl rfl (tle rfl (rfl) rfl (tle rfl (by (simp_all; try rfl)) rfl tln))))) (olk rfl (by exact obOk_cell) (olk rfl (by exact obOkNs) (olk rfl (by exact obOkS rfl) (olk rfl (by exact obOk_cell) oln)))) (hS_sub (a := ro r w) rfl)
    · refine awp_cond rfl (fun h2 => ?_) (fun h2 => ?_)
      · all_goals refine awp_seq (awp_region (id := 10) ?_)
        all_goals refine awpOps_cons (op_build (.cons f78_0 rfl (Conv.of rfl) (.nil _)) z78 rfl pl78 rfl) ?_
        all_goals refine awpOps_cons (op_st ty78 rfl rfl (Conv.of rfl) rfl) ?_
        all_goals refine awpOps_nil ?_
        refine awp_ret ?_
        repeat first | refine rt_seq ?_ | refine rt_block ?_
        refine ⟨_, _, res1 (ol := ro (nx r2 1) w) (.rc ty78 rfl rfl) (fun o ho => by cases ho) (olk rfl obOk_cell (olk rfl obOkNs oln)) (hS_keys rfl), _, nx r2 1, rfl, rfl, by simp only [nx]; omega, by simp only [nx]; omega⟩
      · all_goals refine awp_seq (awp_seq (awp_region (id := 11) ?_))
        all_goals refine awpOps_cons (op_eql rfl rfl rfl) ?_
        all_goals refine awpOps_cons (op_as rfl (Conv.of rfl) rfl) ?_
        all_goals refine awpOps_nil ?_
        refine nx_seq ?_
        refine awp_to (s' := mkSt 64 [(0, .box 0 (IsLens.whole Rd)), (3, .box 5 (IsLens.whole WrldS)), (4, .box 6 (IsLens.whole Evt)), (36, .v k), (41, .v (decide (k = 2) || (decide (k = 3) || decide (k = 4))))] [(0, .cell (nx r2 1)), (1, .arr (w.nodes.map sN)), (5, .cell (fW w)), (6, .cell Evt.zero)]) ?_ ?_
        · refine awp_cond rfl (fun h3 => ?_) (fun h3 => ?_)
          · refine awp_skip ?_
            all_goals exact Le.mk rfl (tlb rfl rfl rfl (tlb rfl rfl rfl (tlb rfl rfl rfl (tle rfl (rfl) rfl (tle rfl (by (simp_all; try rfl)) rfl tln))))) (olk rfl (by exact obOk_cell) (olk rfl (by exact obOkNs) (olk rfl (by exact obOkS rfl) (olk rfl (by exact obOk_cell) oln)))) (hS_sub (a := ro r w) rfl)
          · all_goals refine awp_seq (awp_region (id := 12) ?_)
            all_goals refine awpOps_cons (op_eql rfl rfl rfl) ?_
            all_goals refine awpOps_cons (op_as rfl (Conv.of rfl) rfl) ?_
            all_goals refine awpOps_nil ?_
            refine awp_cond rfl (fun h4 => ?_) (fun h4 => ?_)
            · refine awp_skip ?_
              all_goals exact Le.mk rfl (tlb rfl rfl rfl (tlb rfl rfl rfl (tlb rfl rfl rfl (tle rfl (rfl) rfl (tle rfl (by (simp_all; try rfl)) rfl tln))))) (olk rfl (by exact obOk_cell) (olk rfl (by exact obOkNs) (olk rfl (by exact obOkS rfl) (olk rfl (by exact obOk_cell) oln)))) (hS_sub (a := ro r w) rfl)
            · all_goals refine awp_region (id := 13) ?_
              all_goals refine awpOps_cons (op_eql rfl rfl rfl) ?_
              all_goals refine awpOps_cons (op_as rfl (Conv.of rfl) rfl) ?_
              all_goals refine awpOps_nil ?_
              all_goals exact Le.mk rfl (tlb rfl rfl rfl (tlb rfl rfl rfl (tlb rfl rfl rfl (tle rfl (rfl) rfl (tle rfl (by (simp_all; try rfl)) rfl tln))))) (olk rfl (by exact obOk_cell) (olk rfl (by exact obOkNs) (olk rfl (by exact obOkS rfl) (olk rfl (by exact obOk_cell) oln)))) (hS_sub (a := ro r w) rfl)
        · refine awp_cond rfl (fun h3 => ?_) (fun h3 => ?_)
          · all_goals refine awp_seq (awp_region (id := 14) ?_)
            all_goals refine awpOps_cons (op_fab f29_0_WrldS rfl rfl) ?_
            all_goals refine awpOps_cons (op_ld ty3 rfl rfl rfl) ?_
            all_goals refine awpOps_cons (op_max rfl rfl rfl) ?_
            all_goals refine awpOps_cons (op_call fb79 (.cons rfl (Conv.of rfl) (.nil _)) (l3Leader_ct _ (by show -1000 ≤ max w.epoch 1 ∧ max w.epoch 1 ≤ 1000000; omega)) (argOk rfl rfl argOk0) rfl rfl) ?_
            all_goals refine awpOps_cons (op_mv rfl (Conv.of rfl) rfl) ?_
            all_goals refine awpOps_cons (op_callO fb87 (.cons rfl (Conv.of rfl) (.nil _)) (l71Pay_ct (nx r2 1) (hf3.weak (by omega))) (olsk rfl ols0) (oksk (by exact obOk_cell) oks0) (oksk (by exact obOk_cell) oks0) rfl (argOb rfl rfl rfl argO0) (fun o ho => by cases ho) rfl) ?_
            all_goals refine awpOps_cons (op_build (.cons f78_0 rfl (Conv.of rfl) (.cons f78_1 rfl (Conv.of rfl) (.cons f78_3 rfl (Conv.of rfl) (.nil _)))) z78 rfl pl78 rfl) ?_
            all_goals refine awpOps_cons (op_st ty78 rfl rfl (Conv.of rfl) rfl) ?_
            all_goals refine awpOps_nil ?_
            refine awp_ret ?_
            repeat first | refine rt_seq ?_ | refine rt_block ?_
            refine ⟨_, _, res1 (ol := ro (nx (nx r2 1) 3) w) (.rc ty78 rfl rfl) (fun o ho => by cases ho) (olk rfl obOk_cell (olk rfl obOkNs oln)) (hS_keys rfl), _, nx (nx r2 1) 3, rfl, rfl, by simp only [nx]; omega, by simp only [nx]; omega⟩
          · all_goals refine awp_seq (awp_region (id := 15) ?_)
            all_goals refine awpOps_cons (op_eql rfl rfl rfl) ?_
            all_goals refine awpOps_cons (op_as rfl (Conv.of rfl) rfl) ?_
            all_goals refine awpOps_nil ?_
            refine awp_cond rfl (fun h4 => ?_) (fun h4 => ?_)
            · all_goals refine awp_seq (awp_region (id := 16) ?_)
              all_goals refine awpOps_cons (op_mv rfl (Conv.of rfl) rfl) ?_
              all_goals refine awpOps_cons (op_callO fb54 (.cons rfl (Conv.of rfl) (.cons rfl (Conv.of rfl) (.nil _))) (pick_ct (nx r2 1) 4 (by unfold Far at hf3; omega)) (olsk rfl ols0) (oksk (by exact obOk_cell) oks0) (oksk (by exact obOk_cell) oks0) rfl (argOb rfl rfl rfl (argOk' rfl rfl argO0)) (fun o ho => by cases ho) rfl) ?_
              all_goals refine awpOps_cons (op_add rfl rfl rfl (by omega)) ?_
              all_goals refine awpOps_cons (op_mv rfl (Conv.of rfl) rfl) ?_
              all_goals refine awpOps_cons (op_callO fb87 (.cons rfl (Conv.of rfl) (.nil _)) (l71Pay_ct (nx (nx r2 1) 1) (hf4.weak (by omega))) (olsk rfl ols0) (oksk (by exact obOk_cell) oks0) (oksk (by exact obOk_cell) oks0) rfl (argOb rfl rfl rfl argO0) (fun o ho => by cases ho) rfl) ?_
              all_goals refine awpOps_cons (op_build (.cons f78_0 rfl (Conv.of rfl) (.cons f78_1 rfl (Conv.of rfl) (.cons f78_3 rfl (Conv.of rfl) (.nil _)))) z78 rfl pl78 rfl) ?_
              all_goals refine awpOps_cons (op_st ty78 rfl rfl (Conv.of rfl) rfl) ?_
              all_goals refine awpOps_nil ?_
              refine awp_ret ?_
              repeat first | refine rt_seq ?_ | refine rt_block ?_
              refine ⟨_, _, res1 (ol := ro (nx (nx (nx r2 1) 1) 3) w) (.rc ty78 rfl rfl) (fun o ho => by cases ho) (olk rfl obOk_cell (olk rfl obOkNs oln)) (hS_keys rfl), _, nx (nx (nx r2 1) 1) 3, rfl, rfl, by simp only [nx]; omega, by simp only [nx]; omega⟩
            · refine awp_skip ?_
              repeat first | refine nx_seq ?_ | refine nx_block ?_
              all_goals refine awp_seq (awp_region (id := 17) ?_)
              all_goals refine awpOps_cons (op_mv rfl (Conv.of rfl) rfl) ?_
              all_goals refine awpOps_cons (op_ldd ty29_WrldS rfl rfl rfl) ?_
              refine awpOps_callE (ι := Vote × Rd) (ro (nx r2 1) w) (fun i => .v i.1) (fun i => ro i.2 w) (fun i => i.1.chain.length ≤ 100 ∧ (nx r2 1).p ≤ i.2.p ∧ i.2.p ≤ (nx r2 1).p + 100) rfl fb154 (.cons rfl (Conv.of rfl) (.cons rfl (Conv.of rfl) (.nil _))) (l72Forge_ct (nx r2 1) w hw (hf3.weak (by omega))) (fun r h' ⟨v, r', e1, e2, e3, e4, e5⟩ => ⟨(v, r'), e1, e2, e3, e4, e5⟩) (olsk rfl (olsk rfl ols0)) (oksk obOk_cell (oksk obOkNs oks0)) (argOb rfl rfl rfl (argOb rfl rfl rfl argO0)) rfl (fun i => rfl) (fun i => oksk obOk_cell (oksk obOkNs oks0)) (fun i o ho => by cases ho) ?_
              rintro ⟨v, r3⟩ ⟨q1, q2, q3⟩
              simp only [nx] at q1 q2 q3 ⊢
              all_goals refine awpOps_cons (op_build (.cons f78_0 rfl (Conv.of rfl) (.cons f78_4 rfl (Conv.of rfl) (.nil _))) z78 rfl pl78 rfl) ?_
              all_goals refine awpOps_cons (op_st ty78 rfl rfl (Conv.of rfl) rfl) ?_
              all_goals refine awpOps_nil ?_
              refine awp_ret ?_
              repeat first | refine rt_seq ?_ | refine rt_block ?_
              refine ⟨_, _, res1 (ol := ro r3 w) (.rc ty78 rfl rfl) (fun o ho => by cases ho) (olk rfl obOk_cell (olk rfl obOkNs oln)) (hS_keys rfl), _, r3, rfl, rfl, by omega, by omega⟩
end Go.Proofs.YtmdhfalfppkpeaaGreat

/- The reference: draws of plays. -/
set_option linter.unusedVariables false
set_option linter.unusedSimpArgs false
namespace Go.Proofs.YtmdhfalfppkpeaaGreat
open Go Go.Wt
set_option maxHeartbeats 8000000 in
theorem l72Play_ct (r : Rd) (hp : Far 1000 r) : Ct Tryz.prog 53 [.box 0 (IsLens.whole Rd)] (obs [(0, .cell r)]) (fun r1 h1 => ∃ (bad : Int) (evs : List Evt) (w : Wrld) (r' : Rd), r1 = .tup [.v bad, .v (OList.mk evs true), .v (sW w)] ∧ h1 = obs (ro r' w) ∧ evs.length ≤ 100 ∧ within bad 0 4 = true ∧ FineX w ∧ Far 20000 r') := by
  have hq0 := pk_bd hp (by omega) 5
  have hq0' := hq0.2 (by omega)
  have hf1 : Far 1001 (nx r 1) := hp.nx (by omega) (by omega)
  have hq1 := pk_bd hf1 (by omega) 5
  have hq1' := hq1.2 (by omega)
  have hf2 : Far 1002 (nx (nx r 1) 1) := hf1.nx (by omega) (by omega)
  refine Ct.intro Tryz.func53 rfl rfl ?_
  all_goals refine awp_seq (awp_region (id := 0) ?_)
  all_goals refine awpOps_cons (op_as rfl (Conv.of rfl) rfl) ?_
  all_goals refine awpOps_cons (op_as rfl (Conv.of rfl) rfl) ?_
  all_goals refine awpOps_cons (op_alloc (o := 5) z29_WrldS rfl rfl) ?_
  all_goals refine awpOps_nil ?_
  all_goals refine awp_seq (awp_region (id := 1) ?_)
  all_goals refine awpOps_cons (op_mv rfl (Conv.of rfl) rfl) ?_
  all_goals refine awpOps_cons (op_callO fb54 (.cons rfl (Conv.of rfl) (.cons rfl (Conv.of rfl) (.nil _))) (pick_ct r 5 (by unfold Far at hp; omega)) (olsk rfl ols0) (oksk (by exact obOk_cell) oks0) (oksk (by exact obOk_cell) oks0) rfl (argOb rfl rfl rfl (argOk' rfl rfl argO0)) (fun o ho => by cases ho) rfl) ?_
  all_goals refine awpOps_cons (op_as rfl (Conv.of rfl) rfl) ?_
  all_goals refine awpOps_nil ?_
  have hb : within (pk r 5) 0 4 = true := by simp [within]; omega
  generalize pk r 5 = bad at hq0 hq0' hb ⊢
  all_goals refine awp_seq (awp_region (id := 2) ?_)
  all_goals refine awpOps_cons (op_mv rfl (Conv.of rfl) rfl) ?_
  refine awpOps_callO [] rfl fb57 (.cons rfl (Conv.of rfl) (.nil _)) (sWorldNew_w bad hb) ols0 oks0 (argOk' rfl rfl argO0) rfl ?_
  rintro r_ h' ⟨rfl, rfl⟩
  refine ⟨so (newW bad), rfl, (fun o ho => by cases ho), fun o ho _ => ?_, oksk obOkNs oks0, fun o ho => ?_, ?_⟩
  · have : o = 1 := by simpa [keys, lk0] using ho
    subst this; rfl
  · have : o = 1 := by simpa using (show o ∈ [1] from ho)
    subst this; rfl
  all_goals refine awpOps_cons (op_mvo rfl rfl rfl rfl) ?_
  all_goals refine awpOps_cons (op_extm rfl rfl rfl rfl) ?_
  all_goals refine awpOps_cons (op_ext rfl rfl rfl) ?_
  all_goals refine awpOps_cons (op_alloc (o := 6) z29_WrldS rfl rfl) ?_
  all_goals refine awpOps_cons (op_stm ty29_WrldS rfl rfl rfl) ?_
  all_goals refine awpOps_cons (op_as rfl (Conv.of rfl) rfl) ?_
  all_goals refine awpOps_nil ?_
  all_goals refine awp_seq (awp_region (id := 3) ?_)
  all_goals refine awpOps_cons (op_bsl sl23 z78 (.nil _) rfl (by decide) rfl) ?_
  all_goals refine awpOps_cons (op_asl rfl rfl rfl rfl) ?_
  all_goals refine awpOps_nil ?_
  all_goals refine awp_seq (awp_seq (awp_region (id := 4) ?_))
  all_goals refine awpOps_cons (op_mv rfl (Conv.of rfl) rfl) ?_
  all_goals refine awpOps_cons (op_callO fb54 (.cons rfl (Conv.of rfl) (.cons rfl (Conv.of rfl) (.nil _))) (pick_ct (nx r 1) 5 (by unfold Far at hf1; omega)) (olsk rfl ols0) (oksk (by exact obOk_cell) oks0) (oksk (by exact obOk_cell) oks0) rfl (argOb rfl rfl rfl (argOk' rfl rfl argO0)) (fun o ho => by cases ho) rfl) ?_
  all_goals refine awpOps_cons (op_as rfl (Conv.of rfl) rfl) ?_
  all_goals refine awpOps_nil ?_
  generalize pk (nx r 1) 5 = n0 at hq1 hq1' ⊢
  generalize nx (nx r 1) 1 = r0 at hf2 ⊢
  refine awp_block ?_
  refine awp_loop' (fun n_ s => ∃ (k : Nat), ∃ (evs : List Evt), ∃ (w : Wrld), ∃ (r1 : Rd), ∃ (hk : n_ + k = n0.toNat), ∃ (hw : FineX w), ∃ (he : evs.length ≤ 10 * k), ∃ (hf : Far (1002 + 3 * (k : Int)) r1), s = mkSt 120 [(0, .box 0 (IsLens.whole Rd)), (4, .box 5 (IsLens.whole WrldS)), (5, .v bad), (6, .box 6 (IsLens.whole WrldS)), (8, .v (OList.mk evs true)), (9, .v (n0 - (k : Int)))] [(0, .cell r1), (1, .arr (Wrld.nodes w |>.map sN)), (5, .cell WrldS.zero), (6, .cell (sW w))]) (n0.toNat) ⟨0, [], newW bad, r0, by omega, newW_ok bad, by simp, by simpa using hf2, rfl⟩ (Le.mk rfl (tlb rfl rfl rfl (tlb rfl rfl rfl (tle rfl (rfl) rfl (tlb rfl rfl rfl (tle rfl (rfl) rfl (tle rfl (by (show AV.v _ = AV.v _; congr 1; omega)) rfl tln)))))) (olk rfl (by exact obOk_cell) (olk rfl (by exact obOkNs) (olk rfl (by exact obOkS0) (olk rfl (by exact obOkS rfl) oln)))) (hS_sub (a := [(0, .cell r)]) rfl)) ?_
  rintro n_ s ⟨k, evs, w, r1, hk, hw, he, hf, rfl⟩
  have hk4 : k ≤ 4 := by omega
  have hep := hw.ep
  all_goals refine awp_seq (awp_seq (awp_region (id := 5) ?_))
  all_goals refine awpOps_cons (op_mv rfl (Conv.of rfl) rfl) ?_
  all_goals refine awpOps_cons (op_gtr rfl rfl rfl) ?_
  all_goals refine awpOps_nil ?_
  refine awp_cond rfl (fun h => ?_) (fun h => ?_)
  · have hlt : (k : Int) < n0 := by have := of_decide_eq_true h; omega
    refine awp_skip ?_
    refine awp_seq (awp_block ?_)
    all_goals refine awp_seq (awp_seq (awp_region (id := 7) ?_))
    all_goals refine awpOps_cons (op_build (.cons f78_0 rfl (Conv.of rfl) (.nil _)) z78 rfl pl78 rfl) ?_
    all_goals refine awpOps_cons (op_fab f29_0_WrldS rfl rfl) ?_
    all_goals refine awpOps_cons (op_ld ty3 rfl rfl rfl) ?_
    all_goals refine awpOps_cons (op_add rfl rfl rfl (by (simp only [sW]; omega))) ?_
    all_goals refine awpOps_cons (op_call fb79 (.cons rfl (Conv.of rfl) (.nil _)) (l3Leader_ct _ (by simp only [sW]; omega)) (argOk rfl rfl argOk0) rfl rfl) ?_
    all_goals refine awpOps_cons (op_mv rfl (Conv.of rfl) rfl) ?_
    all_goals refine awpOps_cons (op_callO fb87 (.cons rfl (Conv.of rfl) (.nil _)) (l71Pay_ct r1 (hf.weak (by omega))) (olsk rfl ols0) (oksk (by exact obOk_cell) oks0) (oksk (by exact obOk_cell) oks0) rfl (argOb rfl rfl rfl argO0) (fun o ho => by cases ho) rfl) ?_
    all_goals refine awpOps_cons (op_build (.cons f78_0 rfl (Conv.of rfl) (.cons f78_1 rfl (Conv.of rfl) (.cons f78_3 rfl (Conv.of rfl) (.nil _)))) z78 rfl pl78 rfl) ?_
    all_goals refine awpOps_cons (op_bsl sl23 z78 (.cons rfl (Conv.of rfl) (.cons rfl (Conv.of rfl) (.nil _))) rfl (by decide) rfl) ?_
    all_goals refine awpOps_cons (op_len sl23 rfl rfl) ?_
    all_goals refine awpOps_cons (op_mv rfl (Conv.of rfl) rfl) ?_
    all_goals refine awpOps_nil ?_
    have hf3 : Far (1005 + 3 * (k : Int)) (nx r1 3) := hf.nx (by omega) (by omega)
    generalize hes : ([{ kind := 1, a := 0, b := 0, pay := Pay.zero, vote := Vote.zero }, { kind := 2, a := leadS ((sW w).epoch + 1), b := 0, pay := payV r1, vote := Vote.zero }] : List Evt) = es
    have hes2 : es.length = 2 := by rw [← hes]; rfl
    generalize nx r1 3 = r2 at hf3 ⊢
    refine nx_seq (awp_to_ex (ι := List Evt × Wrld) (fun i => mkSt 120 [(0, .box 0 (IsLens.whole Rd)), (4, .box 5 (IsLens.whole WrldS)), (5, .v bad), (6, .box 6 (IsLens.whole WrldS)), (8, .v (OList.mk i.1 true)), (9, .v (n0 - (k : Int)))] [(0, .cell r2), (1, .arr (Wrld.nodes i.2 |>.map sN)), (5, .cell WrldS.zero), (6, .cell (sW i.2))]) (fun i => FineX i.2 ∧ i.1.length ≤ 10 * k + 2) ?_ ?_)
    · refine awp_block ?_
      refine awp_loop' (fun n_ s => ∃ (j : Nat), ∃ (evs2 : List Evt), ∃ (w2 : Wrld), ∃ (hj : n_ + j = 2), ∃ (hw2 : FineX w2), ∃ (he2 : evs2.length ≤ 10 * k + j), s = mkSt 120 [(0, .box 0 (IsLens.whole Rd)), (4, .box 5 (IsLens.whole WrldS)), (5, .v bad), (6, .box 6 (IsLens.whole WrldS)), (8, .v (OList.mk evs2 true)), (9, .v (n0 - (k : Int))), (39, .v (OList.mk es true)), (40, .v (2 : Int)), (41, .v (j : Int))] [(0, .cell r2), (1, .arr (Wrld.nodes w2 |>.map sN)), (5, .cell WrldS.zero), (6, .cell (sW w2))]) (2) ⟨0, evs, w, by omega, hw, by omega, rfl⟩ (Le.mk rfl (tlb rfl rfl rfl (tlb rfl rfl rfl (tle rfl (rfl) rfl (tlb rfl rfl rfl (tle rfl (rfl) rfl (tle rfl (rfl) rfl (tle rfl (by (rw [← hes]; rfl)) rfl (tle rfl (rfl) rfl (tle rfl (rfl) rfl tln))))))))) (olk rfl (by exact obOk_cell) (olk rfl (by exact obOkNs) (olk rfl (by exact obOkS0) (olk rfl (by exact obOkS rfl) oln)))) (hS_sub (a := [(0, .cell r)]) rfl)) ?_
      rintro n_ s ⟨j, evs2, w2, hj, hw2, he2, rfl⟩
      all_goals refine awp_seq (awp_region (id := 8) ?_)
      all_goals refine awpOps_cons (op_lss rfl rfl rfl) ?_
      all_goals refine awpOps_nil ?_
      refine awp_seq (awp_cond rfl (fun h2 => ?_) (fun h2 => ?_))
      · have hj2 : j < 2 := by have := of_decide_eq_true h2; omega
        have hx : es[j]? = some (es[j]'(by omega)) := List.getElem?_eq_getElem (by omega)
        generalize hee : es[j]'(by omega) = e at hx
        refine awp_skip ?_
        refine awp_seq (awp_block ?_)
        all_goals refine awp_seq (awp_region (id := 9) ?_)
        all_goals refine awpOps_cons (op_ix sl23 rfl rfl rfl (by omega) hx) ?_
        all_goals refine awpOps_cons (op_ldr ty78 rfl rfl) ?_
        all_goals refine awpOps_cons (op_alloc (o := 7) z78 rfl rfl) ?_
        all_goals refine awpOps_cons (op_st ty78 rfl rfl (Conv.of rfl) rfl) ?_
        all_goals refine awpOps_nil ?_
        all_goals refine awp_seq (awp_region (id := 10) ?_)
        all_goals refine awpOps_cons (op_mvl rfl rfl rfl rfl) ?_
        all_goals refine awpOps_cons (op_ld ty78 rfl rfl rfl) ?_
        all_goals refine awpOps_cons (op_bsl sl23 z78 (.cons rfl (Conv.of rfl) (.nil _)) rfl (by decide) rfl) ?_
        all_goals refine awpOps_cons (op_app sl23 z78 ul23 rfl rfl rfl (by (simp; omega)) (by (simp; omega)) rfl rfl) ?_
        all_goals refine awpOps_cons (op_asl rfl rfl rfl rfl) ?_
        all_goals refine awpOps_nil ?_
        all_goals refine awp_region (id := 11) ?_
        all_goals refine awpOps_cons (op_ldm ty29_WrldS rfl rfl rfl) ?_
        all_goals refine awpOps_cons (op_ld ty78 rfl rfl rfl) ?_
        all_goals refine awpOps_cons (op_callM (s := 49) (pre := []) fb58 (.nil _) rfl (.cons rfl (Conv.of rfl) (.nil _)) (l21Do_ct w2 _ hw2) (olsk rfl ols0) (oksk (by exact obOkNs) oks0) (oksk (by exact obOkNs) oks0) rfl argO0 (argOk' rfl rfl argO0) (inOne rfl) (inOne rfl) rfl) ?_
        all_goals refine awpOps_cons (op_stm ty29_WrldS rfl rfl rfl) ?_
        all_goals refine awpOps_nil ?_
        all_goals refine awp_region (id := 12) ?_
        all_goals refine awpOps_cons (op_add rfl rfl rfl (by omega)) ?_
        all_goals refine awpOps_cons (op_mv rfl (Conv.of rfl) rfl) ?_
        all_goals refine awpOps_nil ?_
        repeat first | refine nx_seq ?_ | refine nx_block ?_
        exact ⟨n_ - 1, _, by omega, ⟨j + 1, evs2 ++ [e], doF w2 e, by omega, doF_ok _ hw2, by simp; omega, rfl⟩, Le.mk rfl (tlb rfl rfl rfl (tlb rfl rfl rfl (tle rfl (rfl) rfl (tlb rfl rfl rfl (tle rfl (rfl) rfl (tle rfl (rfl) rfl (tle rfl (by rfl) rfl (tle rfl (rfl) rfl (tle rfl (rfl) rfl tln))))))))) (olk rfl (by exact obOk_cell) (olk rfl (by exact obOkNs) (olk rfl (by exact obOkS0) (olk rfl (by exact obOkS rfl) oln)))) (hS_sub (a := [(0, .cell r)]) rfl)⟩
      · refine awp_exit ?_
        repeat refine ex_seq ?_
        refine ex_block ?_
        exact nx_seq ⟨(evs2, w2), ⟨hw2, by simp only; omega⟩, Le.mk rfl (tlb rfl rfl rfl (tlb rfl rfl rfl (tle rfl (rfl) rfl (tlb rfl rfl rfl (tle rfl (rfl) rfl (tle rfl (rfl) rfl tln)))))) (olk rfl (by exact obOk_cell) (olk rfl (by exact obOkNs) (olk rfl (by exact obOkS0) (olk rfl (by exact obOkS rfl) oln)))) (hS_sub (a := [(0, .cell r)]) rfl)⟩
    rintro ⟨evs3, w3⟩ ⟨hw3, he3⟩
    simp only at hw3 he3 ⊢
    refine awp_seq_ex (ι := List Evt × Wrld) (fun i => mkSt 120 [(0, .box 0 (IsLens.whole Rd)), (4, .box 5 (IsLens.whole WrldS)), (5, .v bad), (6, .box 6 (IsLens.whole WrldS)), (8, .v (OList.mk i.1 true)), (9, .v (n0 - (k : Int)))] [(0, .cell r2), (1, .arr (Wrld.nodes i.2 |>.map sN)), (5, .cell WrldS.zero), (6, .cell (sW i.2))]) (fun i => FineX i.2 ∧ i.1.length ≤ 10 * k + 6) ?_ ?_
    · all_goals refine awp_seq (awp_region (id := 13) ?_)
      all_goals refine awpOps_cons (op_as rfl (Conv.of rfl) rfl) ?_
      all_goals refine awpOps_nil ?_
      refine awp_block ?_
      refine awp_loop' (fun n_ s => ∃ (j : Nat), ∃ (evs4 : List Evt), ∃ (w4 : Wrld), ∃ (hj : n_ + j = 4), ∃ (hw4 : FineX w4), ∃ (he4 : evs4.length ≤ 10 * k + 2 + j), s = mkSt 120 [(0, .box 0 (IsLens.whole Rd)), (4, .box 5 (IsLens.whole WrldS)), (5, .v bad), (6, .box 6 (IsLens.whole WrldS)), (8, .v (OList.mk evs4 true)), (9, .v (n0 - (k : Int))), (12, .v ((j : Int) + 1))] [(0, .cell r2), (1, .arr (Wrld.nodes w4 |>.map sN)), (5, .cell WrldS.zero), (6, .cell (sW w4))]) (4) ⟨0, evs3, w3, by omega, hw3, by omega, rfl⟩ (Le.mk rfl (tlb rfl rfl rfl (tlb rfl rfl rfl (tle rfl (rfl) rfl (tlb rfl rfl rfl (tle rfl (rfl) rfl (tle rfl (rfl) rfl (tle rfl (by rfl) rfl tln))))))) (olk rfl (by exact obOk_cell) (olk rfl (by exact obOkNs) (olk rfl (by exact obOkS0) (olk rfl (by exact obOkS rfl) oln)))) (hS_sub (a := [(0, .cell r)]) rfl)) ?_
      rintro n_ s ⟨j, evs4, w4, hj, hw4, he4, rfl⟩
      have hll := hw4.ll
      all_goals refine awp_seq (awp_seq (awp_region (id := 14) ?_))
      all_goals refine awpOps_cons (op_mv rfl (Conv.of rfl) rfl) ?_
      all_goals refine awpOps_cons (op_leq rfl rfl rfl) ?_
      all_goals refine awpOps_cons (op_mv rfl (Conv.of rfl) rfl) ?_
      all_goals refine g_split (t := 55) rfl (fun h => ?_) (fun h => ?_)
      all_goals first | refine awpOps_cons (g_off rfl rfl rfl rfl rfl) ?_ | refine awpOps_cons (g_on rfl rfl rfl (op_fab f29_2_WrldS rfl rfl)) ?_
      all_goals first | refine awpOps_cons (g_off rfl rfl rfl rfl rfl) ?_ | refine awpOps_cons (g_on rfl rfl rfl (op_ldl ty27_OListVote rfl rfl rfl)) ?_
      all_goals first | refine awpOps_cons (g_off rfl rfl rfl rfl rfl) ?_ | refine awpOps_cons (g_on rfl rfl rfl (op_len sl27 rfl rfl)) ?_
      all_goals first | refine awpOps_cons (g_off rfl rfl rfl rfl rfl) ?_ | refine awpOps_cons (g_on rfl rfl rfl (op_gtr rfl rfl rfl)) ?_
      all_goals refine awpOps_cons (op_pick rfl rfl rfl rfl) ?_
      all_goals refine awpOps_nil ?_
      · refine awp_cond rfl (fun h2 => ?_) (fun h2 => ?_)
        · have hj4 : j < 4 := by have := of_decide_eq_true h; omega
          refine awp_skip ?_
          refine awp_seq (awp_block ?_)
          all_goals refine awp_seq (awp_region (id := 16) ?_)
          all_goals refine awpOps_cons (op_fab f29_2_WrldS rfl rfl) ?_
          all_goals refine awpOps_cons (op_ldl ty27_OListVote rfl rfl rfl) ?_
          all_goals refine awpOps_cons (op_len sl27 rfl rfl) ?_
          all_goals refine awpOps_cons (op_sub rfl rfl rfl (by (simp only [sW]; omega))) ?_
          all_goals refine awpOps_cons (op_mv rfl (Conv.of rfl) rfl) ?_
          all_goals refine awpOps_cons (op_build (.cons f78_0 rfl (Conv.of rfl) (.cons f78_1 rfl (Conv.of rfl) (.cons f78_2 rfl (Conv.of rfl) (.nil _)))) z78 rfl pl78 rfl) ?_
          all_goals refine awpOps_cons (op_alloc (o := 8) z78 rfl rfl) ?_
          all_goals refine awpOps_cons (op_st ty78 rfl rfl (Conv.of rfl) rfl) ?_
          all_goals refine awpOps_nil ?_
          all_goals refine awp_seq (awp_region (id := 17) ?_)
          all_goals refine awpOps_cons (op_mvl rfl rfl rfl rfl) ?_
          all_goals refine awpOps_cons (op_ld ty78 rfl rfl rfl) ?_
          all_goals refine awpOps_cons (op_bsl sl23 z78 (.cons rfl (Conv.of rfl) (.nil _)) rfl (by decide) rfl) ?_
          all_goals refine awpOps_cons (op_app sl23 z78 ul23 rfl rfl rfl (by (simp; omega)) (by (simp; omega)) rfl rfl) ?_
          all_goals refine awpOps_cons (op_asl rfl rfl rfl rfl) ?_
          all_goals refine awpOps_nil ?_
          all_goals refine awp_region (id := 18) ?_
          all_goals refine awpOps_cons (op_ldm ty29_WrldS rfl rfl rfl) ?_
          all_goals refine awpOps_cons (op_ld ty78 rfl rfl rfl) ?_
          all_goals refine awpOps_cons (op_callM (s := 73) (pre := []) fb58 (.nil _) rfl (.cons rfl (Conv.of rfl) (.nil _)) (l21Do_ct w4 _ hw4) (olsk rfl ols0) (oksk (by exact obOkNs) oks0) (oksk (by exact obOkNs) oks0) rfl argO0 (argOk' rfl rfl argO0) (inOne rfl) (inOne rfl) rfl) ?_
          all_goals refine awpOps_cons (op_stm ty29_WrldS rfl rfl rfl) ?_
          all_goals refine awpOps_nil ?_
          all_goals refine awp_region (id := 15) ?_
          all_goals refine awpOps_cons (op_mv rfl (Conv.of rfl) rfl) ?_
          all_goals refine awpOps_cons (op_add rfl rfl rfl (by omega)) ?_
          all_goals refine awpOps_cons (op_as rfl (Conv.of rfl) rfl) ?_
          all_goals refine awpOps_nil ?_
          repeat first | refine nx_seq ?_ | refine nx_block ?_
          exact ⟨n_ - 1, _, by omega, ⟨j + 1, _, _, by omega, doF_ok _ hw4, by simp; omega, rfl⟩, Le.mk rfl (tlb rfl rfl rfl (tlb rfl rfl rfl (tle rfl (rfl) rfl (tlb rfl rfl rfl (tle rfl (rfl) rfl (tle rfl (rfl) rfl (tle rfl (by rfl) rfl tln))))))) (olk rfl (by exact obOk_cell) (olk rfl (by exact obOkNs) (olk rfl (by exact obOkS0) (olk rfl (by exact obOkS rfl) oln)))) (hS_sub (a := [(0, .cell r)]) rfl)⟩
        · refine awp_exit ?_
          repeat refine ex_seq ?_
          refine ex_block ?_
          exact nx_seq ⟨(evs4, w4), ⟨hw4, by simp only; omega⟩, Le.mk rfl (tlb rfl rfl rfl (tlb rfl rfl rfl (tle rfl (rfl) rfl (tlb rfl rfl rfl (tle rfl (rfl) rfl (tle rfl (rfl) rfl tln)))))) (olk rfl (by exact obOk_cell) (olk rfl (by exact obOkNs) (olk rfl (by exact obOkS0) (olk rfl (by exact obOkS rfl) oln)))) (hS_sub (a := [(0, .cell r)]) rfl)⟩
      · refine awp_cond rfl (fun h2 => absurd h2 (by decide)) (fun h2 => ?_)
        refine awp_exit ?_
        repeat refine ex_seq ?_
        refine ex_block ?_
        exact nx_seq ⟨(evs4, w4), ⟨hw4, by simp only; omega⟩, Le.mk rfl (tlb rfl rfl rfl (tlb rfl rfl rfl (tle rfl (rfl) rfl (tlb rfl rfl rfl (tle rfl (rfl) rfl (tle rfl (rfl) rfl tln)))))) (olk rfl (by exact obOk_cell) (olk rfl (by exact obOkNs) (olk rfl (by exact obOkS0) (olk rfl (by exact obOkS rfl) oln)))) (hS_sub (a := [(0, .cell r)]) rfl)⟩
    rintro ⟨evs5, w5⟩ ⟨hw5, he5⟩
    simp only at hw5 he5 ⊢
    refine awp_toB_ex (ι := List Evt × Wrld) (fun i => mkSt 120 [(0, .box 0 (IsLens.whole Rd)), (4, .box 5 (IsLens.whole WrldS)), (5, .v bad), (6, .box 6 (IsLens.whole WrldS)), (8, .v (OList.mk i.1 true)), (9, .v (n0 - (k : Int)))] [(0, .cell r2), (1, .arr (Wrld.nodes i.2 |>.map sN)), (5, .cell WrldS.zero), (6, .cell (sW i.2))]) (fun i => FineX i.2 ∧ i.1.length ≤ 10 * k + 10) ?_ ?_
    · all_goals refine awp_seq (awp_region (id := 19) ?_)
      all_goals refine awpOps_cons (op_as rfl (Conv.of rfl) rfl) ?_
      all_goals refine awpOps_nil ?_
      refine awp_block ?_
      refine awp_loop' (fun n_ s => ∃ (j : Nat), ∃ (evs6 : List Evt), ∃ (w6 : Wrld), ∃ (hj : n_ + j = 4), ∃ (hw6 : FineX w6), ∃ (he6 : evs6.length ≤ 10 * k + 6 + j), s = mkSt 120 [(0, .box 0 (IsLens.whole Rd)), (4, .box 5 (IsLens.whole WrldS)), (5, .v bad), (6, .box 6 (IsLens.whole WrldS)), (8, .v (OList.mk evs6 true)), (9, .v (n0 - (k : Int))), (14, .v ((j : Int) + 1))] [(0, .cell r2), (1, .arr (Wrld.nodes w6 |>.map sN)), (5, .cell WrldS.zero), (6, .cell (sW w6))]) (4) ⟨0, evs5, w5, by omega, hw5, by omega, rfl⟩ (Le.mk rfl (tlb rfl rfl rfl (tlb rfl rfl rfl (tle rfl (rfl) rfl (tlb rfl rfl rfl (tle rfl (rfl) rfl (tle rfl (rfl) rfl (tle rfl (by rfl) rfl tln))))))) (olk rfl (by exact obOk_cell) (olk rfl (by exact obOkNs) (olk rfl (by exact obOkS0) (olk rfl (by exact obOkS rfl) oln)))) (hS_sub (a := [(0, .cell r)]) rfl)) ?_
      rintro n_ s ⟨j, evs6, w6, hj, hw6, he6, rfl⟩
      have hll := hw6.ll
      all_goals refine awp_seq (awp_seq (awp_region (id := 20) ?_))
      all_goals refine awpOps_cons (op_mv rfl (Conv.of rfl) rfl) ?_
      all_goals refine awpOps_cons (op_leq rfl rfl rfl) ?_
      all_goals refine awpOps_cons (op_mv rfl (Conv.of rfl) rfl) ?_
      all_goals refine g_split (t := 78) rfl (fun h => ?_) (fun h => ?_)
      all_goals first | refine awpOps_cons (g_off rfl rfl rfl rfl rfl) ?_ | refine awpOps_cons (g_on rfl rfl rfl (op_fab f29_2_WrldS rfl rfl)) ?_
      all_goals first | refine awpOps_cons (g_off rfl rfl rfl rfl rfl) ?_ | refine awpOps_cons (g_on rfl rfl rfl (op_ldl ty27_OListVote rfl rfl rfl)) ?_
      all_goals first | refine awpOps_cons (g_off rfl rfl rfl rfl rfl) ?_ | refine awpOps_cons (g_on rfl rfl rfl (op_len sl27 rfl rfl)) ?_
      all_goals first | refine awpOps_cons (g_off rfl rfl rfl rfl rfl) ?_ | refine awpOps_cons (g_on rfl rfl rfl (op_gtr rfl rfl rfl)) ?_
      all_goals refine awpOps_cons (op_pick rfl rfl rfl rfl) ?_
      all_goals refine awpOps_nil ?_
      · refine awp_cond rfl (fun h2 => ?_) (fun h2 => ?_)
        · have hj4 : j < 4 := by have := of_decide_eq_true h; omega
          refine awp_skip ?_
          refine awp_seq (awp_block ?_)
          all_goals refine awp_seq (awp_region (id := 22) ?_)
          all_goals refine awpOps_cons (op_fab f29_2_WrldS rfl rfl) ?_
          all_goals refine awpOps_cons (op_ldl ty27_OListVote rfl rfl rfl) ?_
          all_goals refine awpOps_cons (op_len sl27 rfl rfl) ?_
          all_goals refine awpOps_cons (op_sub rfl rfl rfl (by (simp only [sW]; omega))) ?_
          all_goals refine awpOps_cons (op_mv rfl (Conv.of rfl) rfl) ?_
          all_goals refine awpOps_cons (op_build (.cons f78_0 rfl (Conv.of rfl) (.cons f78_1 rfl (Conv.of rfl) (.cons f78_2 rfl (Conv.of rfl) (.nil _)))) z78 rfl pl78 rfl) ?_
          all_goals refine awpOps_cons (op_alloc (o := 9) z78 rfl rfl) ?_
          all_goals refine awpOps_cons (op_st ty78 rfl rfl (Conv.of rfl) rfl) ?_
          all_goals refine awpOps_nil ?_
          all_goals refine awp_seq (awp_region (id := 23) ?_)
          all_goals refine awpOps_cons (op_mvl rfl rfl rfl rfl) ?_
          all_goals refine awpOps_cons (op_ld ty78 rfl rfl rfl) ?_
          all_goals refine awpOps_cons (op_bsl sl23 z78 (.cons rfl (Conv.of rfl) (.nil _)) rfl (by decide) rfl) ?_
          all_goals refine awpOps_cons (op_app sl23 z78 ul23 rfl rfl rfl (by (simp; omega)) (by (simp; omega)) rfl rfl) ?_
          all_goals refine awpOps_cons (op_asl rfl rfl rfl rfl) ?_
          all_goals refine awpOps_nil ?_
          all_goals refine awp_region (id := 24) ?_
          all_goals refine awpOps_cons (op_ldm ty29_WrldS rfl rfl rfl) ?_
          all_goals refine awpOps_cons (op_ld ty78 rfl rfl rfl) ?_
          all_goals refine awpOps_cons (op_callM (s := 96) (pre := []) fb58 (.nil _) rfl (.cons rfl (Conv.of rfl) (.nil _)) (l21Do_ct w6 _ hw6) (olsk rfl ols0) (oksk (by exact obOkNs) oks0) (oksk (by exact obOkNs) oks0) rfl argO0 (argOk' rfl rfl argO0) (inOne rfl) (inOne rfl) rfl) ?_
          all_goals refine awpOps_cons (op_stm ty29_WrldS rfl rfl rfl) ?_
          all_goals refine awpOps_nil ?_
          all_goals refine awp_region (id := 21) ?_
          all_goals refine awpOps_cons (op_mv rfl (Conv.of rfl) rfl) ?_
          all_goals refine awpOps_cons (op_add rfl rfl rfl (by omega)) ?_
          all_goals refine awpOps_cons (op_as rfl (Conv.of rfl) rfl) ?_
          all_goals refine awpOps_nil ?_
          repeat first | refine nx_seq ?_ | refine nx_block ?_
          exact ⟨n_ - 1, _, by omega, ⟨j + 1, _, _, by omega, doF_ok _ hw6, by simp; omega, rfl⟩, Le.mk rfl (tlb rfl rfl rfl (tlb rfl rfl rfl (tle rfl (rfl) rfl (tlb rfl rfl rfl (tle rfl (rfl) rfl (tle rfl (rfl) rfl (tle rfl (by rfl) rfl tln))))))) (olk rfl (by exact obOk_cell) (olk rfl (by exact obOkNs) (olk rfl (by exact obOkS0) (olk rfl (by exact obOkS rfl) oln)))) (hS_sub (a := [(0, .cell r)]) rfl)⟩
        · refine awp_exit ?_
          repeat refine ex_seq ?_
          refine ex_block ?_
          exact nx_block (nx_seq ⟨(evs6, w6), ⟨hw6, by simp only; omega⟩, Le.mk rfl (tlb rfl rfl rfl (tlb rfl rfl rfl (tle rfl (rfl) rfl (tlb rfl rfl rfl (tle rfl (rfl) rfl (tle rfl (rfl) rfl tln)))))) (olk rfl (by exact obOk_cell) (olk rfl (by exact obOkNs) (olk rfl (by exact obOkS0) (olk rfl (by exact obOkS rfl) oln)))) (hS_sub (a := [(0, .cell r)]) rfl)⟩)
      · refine awp_cond rfl (fun h2 => absurd h2 (by decide)) (fun h2 => ?_)
        refine awp_exit ?_
        repeat refine ex_seq ?_
        refine ex_block ?_
        exact nx_block (nx_seq ⟨(evs6, w6), ⟨hw6, by simp only; omega⟩, Le.mk rfl (tlb rfl rfl rfl (tlb rfl rfl rfl (tle rfl (rfl) rfl (tlb rfl rfl rfl (tle rfl (rfl) rfl (tle rfl (rfl) rfl tln)))))) (olk rfl (by exact obOk_cell) (olk rfl (by exact obOkNs) (olk rfl (by exact obOkS0) (olk rfl (by exact obOkS rfl) oln)))) (hS_sub (a := [(0, .cell r)]) rfl)⟩)
    rintro ⟨evs7, w7⟩ ⟨hw7, he7⟩
    simp only at hw7 he7 ⊢
    all_goals refine awp_region (id := 6) ?_
    all_goals refine awpOps_cons (op_mv rfl (Conv.of rfl) rfl) ?_
    all_goals refine awpOps_cons (op_sub rfl rfl rfl (by omega)) ?_
    all_goals refine awpOps_cons (op_as rfl (Conv.of rfl) rfl) ?_
    all_goals refine awpOps_nil ?_
    repeat first | refine nx_seq ?_ | refine nx_block ?_
    exact ⟨n_ - 1, _, by omega, ⟨k + 1, evs7, w7, r2, by omega, hw7, by omega, hf3.weak (by omega), rfl⟩, Le.mk rfl (tlb rfl rfl rfl (tlb rfl rfl rfl (tle rfl (rfl) rfl (tlb rfl rfl rfl (tle rfl (rfl) rfl (tle rfl (by (show AV.v _ = AV.v _; congr 1; omega)) rfl tln)))))) (olk rfl (by exact obOk_cell) (olk rfl (by exact obOkNs) (olk rfl (by exact obOkS0) (olk rfl (by exact obOkS rfl) oln)))) (hS_sub (a := [(0, .cell r)]) rfl)⟩
  · refine awp_exit ?_
    repeat refine ex_seq ?_
    refine ex_block ?_
    have hff : Far 2000 r1 := hf.weak (by omega)
    clear hf hk h hq1 hq1' hq0 hq0' hf1 hf2 hp
    have he40 : evs.length ≤ 40 := by omega
    clear he hk4
    refine awp_seq_ex (ι := List Evt × Wrld × Rd) (fun i => mkSt 120 [(0, .box 0 (IsLens.whole Rd)), (4, .box 5 (IsLens.whole WrldS)), (5, .v bad), (6, .box 6 (IsLens.whole WrldS)), (8, .v (OList.mk i.1 true))] [(0, .cell i.2.2), (1, .arr (Wrld.nodes i.2.1 |>.map sN)), (5, .cell WrldS.zero), (6, .cell (sW i.2.1))]) (fun i => FineX i.2.1 ∧ i.1.length ≤ 100 ∧ Far 20000 i.2.2) ?_ ?_
    · refine awp_block ?_
      refine awp_loop' (fun n_ s => ∃ (evs2 : List Evt), ∃ (w2 : Wrld), ∃ (r2 : Rd), ∃ (hj : n_ + evs2.length = 200), ∃ (hw2 : FineX w2), ∃ (he2 : evs2.length ≤ 100), ∃ (hf2 : Far (2000 + 130 * (evs2.length : Int)) r2), s = mkSt 120 [(0, .box 0 (IsLens.whole Rd)), (4, .box 5 (IsLens.whole WrldS)), (5, .v bad), (6, .box 6 (IsLens.whole WrldS)), (8, .v (OList.mk evs2 true))] [(0, .cell r2), (1, .arr (Wrld.nodes w2 |>.map sN)), (5, .cell WrldS.zero), (6, .cell (sW w2))]) (200 - evs.length) ⟨evs, w, r1, by omega, hw, by omega, hff.weak (by omega), rfl⟩ (Le.mk rfl (tlb rfl rfl rfl (tlb rfl rfl rfl (tle rfl (rfl) rfl (tlb rfl rfl rfl (tle rfl (rfl) rfl tln))))) (olk rfl (by exact obOk_cell) (olk rfl (by exact obOkNs) (olk rfl (by exact obOkS0) (olk rfl (by exact obOkS rfl) oln)))) (hS_sub (a := [(0, .cell r)]) rfl)) ?_
      rintro n_ s ⟨evs2, w2, r2, hj, hw2, he2, hf2, rfl⟩
      have hf3 : Far (2001 + 130 * (evs2.length : Int)) (nx r2 1) := hf2.nx (by omega) (by omega)
      all_goals refine awp_seq (awp_seq (awp_region (id := 25) ?_))
      all_goals refine awpOps_cons (op_mv rfl Conv.ol rfl) ?_
      all_goals refine awpOps_cons (op_len sl23 rfl rfl) ?_
      all_goals refine awpOps_cons (op_lss rfl rfl rfl) ?_
      all_goals refine awpOps_cons (op_mv rfl (Conv.of rfl) rfl) ?_
      all_goals refine g_split (t := 102) rfl (fun h => ?_) (fun h => ?_)
      all_goals first | refine awpOps_cons (g_off rfl rfl rfl rfl rfl) ?_ | refine awpOps_cons (g_on rfl rfl rfl (op_mv rfl (Conv.of rfl) rfl)) ?_
      all_goals first | refine awpOps_cons (g_off rfl rfl rfl rfl rfl) ?_ | refine awpOps_cons (g_on rfl rfl rfl (op_callO fb54 (.cons rfl (Conv.of rfl) (.cons rfl (Conv.of rfl) (.nil _))) (pick_ct r2 40 (by unfold Far at hf2; omega)) (olsk rfl ols0) (oksk (by exact obOk_cell) oks0) (oksk (by exact obOk_cell) oks0) rfl (argOb rfl rfl rfl (argOk' rfl rfl argO0)) (fun o ho => by cases ho) rfl)) ?_
      all_goals first | refine awpOps_cons (g_off rfl rfl rfl rfl rfl) ?_ | refine awpOps_cons (g_on rfl rfl rfl (op_gtr rfl rfl rfl)) ?_
      all_goals refine awpOps_cons (op_pick rfl rfl rfl rfl) ?_
      all_goals refine awpOps_nil ?_
      · have h69 : evs2.length < 69 := by have := of_decide_eq_true h; omega
        refine awp_cond rfl (fun h2 => ?_) (fun h2 => ?_)
        · refine awp_skip ?_
          refine awp_block ?_
          all_goals refine awp_seq (awp_region (id := 26) ?_)
          all_goals refine awpOps_cons (op_mv rfl (Conv.of rfl) rfl) ?_
          all_goals refine awpOps_cons (op_ldd ty29_WrldS rfl rfl rfl) ?_
          refine awpOps_callE (ι := Evt × Rd) (ro (nx r2 1) w2) (fun i => .v i.1) (fun i => ro i.2 w2) (fun i => (nx r2 1).p ≤ i.2.p ∧ i.2.p ≤ (nx r2 1).p + 120) rfl fb109 (.cons rfl (Conv.of rfl) (.cons rfl (Conv.of rfl) (.nil _))) (l72Event_ct (nx r2 1) w2 hw2 (hf3.weak (by omega))) (fun r h' ⟨v, r', e1, e2, e3, e4⟩ => ⟨(v, r'), e1, e2, e3, e4⟩) (olsk rfl (olsk rfl ols0)) (oksk obOk_cell (oksk obOkNs oks0)) (argOb rfl rfl rfl (argOb rfl rfl rfl argO0)) rfl (fun i => rfl) (fun i => oksk obOk_cell (oksk obOkNs oks0)) (fun i o ho => by cases ho) ?_
          rintro ⟨e, r3⟩ ⟨q1, q2⟩
          simp only at q1 q2 ⊢
          have hf4 : Far (2130 + 130 * (evs2.length : Int)) r3 := by unfold Far at hf3 ⊢; omega
          all_goals refine awpOps_cons (op_alloc (o := 10) z78 rfl rfl) ?_
          all_goals refine awpOps_cons (op_st ty78 rfl rfl (Conv.of rfl) rfl) ?_
          all_goals refine awpOps_nil ?_
          all_goals refine awp_seq (awp_region (id := 27) ?_)
          all_goals refine awpOps_cons (op_mvl rfl rfl rfl rfl) ?_
          all_goals refine awpOps_cons (op_ld ty78 rfl rfl rfl) ?_
          all_goals refine awpOps_cons (op_bsl sl23 z78 (.cons rfl (Conv.of rfl) (.nil _)) rfl (by decide) rfl) ?_
          all_goals refine awpOps_cons (op_app sl23 z78 ul23 rfl rfl rfl (by (simp; omega)) (by (simp; omega)) rfl rfl) ?_
          all_goals refine awpOps_cons (op_asl rfl rfl rfl rfl) ?_
          all_goals refine awpOps_nil ?_
          all_goals refine awp_region (id := 28) ?_
          all_goals refine awpOps_cons (op_ldm ty29_WrldS rfl rfl rfl) ?_
          all_goals refine awpOps_cons (op_ld ty78 rfl rfl rfl) ?_
          all_goals refine awpOps_cons (op_callM (s := 114) (pre := []) fb58 (.nil _) rfl (.cons rfl (Conv.of rfl) (.nil _)) (l21Do_ct w2 _ hw2) (olsk rfl ols0) (oksk (by exact obOkNs) oks0) (oksk (by exact obOkNs) oks0) rfl argO0 (argOk' rfl rfl argO0) (inOne rfl) (inOne rfl) rfl) ?_
          all_goals refine awpOps_cons (op_stm ty29_WrldS rfl rfl rfl) ?_
          all_goals refine awpOps_nil ?_
          repeat first | refine nx_seq ?_ | refine nx_block ?_
          exact ⟨n_ - 1, _, by omega, ⟨evs2 ++ [e], doF w2 e, r3, by simp; omega, doF_ok _ hw2, by simp; omega, hf4.weak (by simp; omega), rfl⟩, Le.mk rfl (tlb rfl rfl rfl (tlb rfl rfl rfl (tle rfl (rfl) rfl (tlb rfl rfl rfl (tle rfl (rfl) rfl tln))))) (olk rfl (by exact obOk_cell) (olk rfl (by exact obOkNs) (olk rfl (by exact obOkS0) (olk rfl (by exact obOkS rfl) oln)))) (hS_sub (a := [(0, .cell r)]) rfl)⟩
        · refine awp_exit ?_
          repeat refine ex_seq ?_
          refine ex_block ?_
          exact nx_seq ⟨(evs2, w2, nx r2 1), ⟨hw2, by simp only; omega, by simp only; exact Far.weak hf3 (by omega)⟩, Le.mk rfl (tlb rfl rfl rfl (tlb rfl rfl rfl (tle rfl (rfl) rfl (tlb rfl rfl rfl (tle rfl (rfl) rfl tln))))) (olk rfl (by exact obOk_cell) (olk rfl (by exact obOkNs) (olk rfl (by exact obOkS0) (olk rfl (by exact obOkS rfl) oln)))) (hS_sub (a := [(0, .cell r)]) rfl)⟩
      · refine awp_cond rfl (fun h2 => absurd h2 (by decide)) (fun h2 => ?_)
        refine awp_exit ?_
        repeat refine ex_seq ?_
        refine ex_block ?_
        exact nx_seq ⟨(evs2, w2, r2), ⟨hw2, by simp only; omega, by simp only; exact Far.weak hf2 (by omega)⟩, Le.mk rfl (tlb rfl rfl rfl (tlb rfl rfl rfl (tle rfl (rfl) rfl (tlb rfl rfl rfl (tle rfl (rfl) rfl tln))))) (olk rfl (by exact obOk_cell) (olk rfl (by exact obOkNs) (olk rfl (by exact obOkS0) (olk rfl (by exact obOkS rfl) oln)))) (hS_sub (a := [(0, .cell r)]) rfl)⟩
    · rintro ⟨evs3, w3, r3⟩ ⟨hw3, he3, hf3⟩
      simp only at hw3 he3 hf3 ⊢
      all_goals refine awp_seq (dr_start (id := 29) ?_)
      all_goals refine dr_cons (op_mv rfl (Conv.of rfl) rfl) ?_
      all_goals refine dr_cons (op_mvl rfl rfl rfl rfl) ?_
      all_goals refine dr_cons (op_ldm ty29_WrldS rfl rfl rfl) ?_
      all_goals refine dr_cons (op_as rfl (Conv.of rfl) rfl) ?_
      all_goals refine dr_cons (op_asl rfl rfl rfl rfl) ?_
      all_goals refine dr_cons (op_stm ty29_WrldS rfl rfl rfl) ?_
      all_goals refine dr_nil mixed rfl ?_
      refine awp_ret ?_
      repeat first | refine rt_seq ?_ | refine rt_block ?_
      exact ⟨_, _, resNM (ol := ro r3 w3) (.keep (.v rfl (Conv.of rfl)) (.tmp rfl (.cell ty29_WrldS rfl rfl (.nil _)))) rfl (inOne rfl) (olk rfl obOk_cell (olk rfl obOkNs oln)) (hS_sub rfl), bad, evs3, w3, r3, rfl, rfl, he3, hb, hw3, hf3⟩
end Go.Proofs.YtmdhfalfppkpeaaGreat

/- The reference: a drawn play. -/
set_option linter.unusedVariables false
set_option linter.unusedSimpArgs false
namespace Go.Proofs.YtmdhfalfppkpeaaGreat
open Go Go.Wt
end Go.Proofs.YtmdhfalfppkpeaaGreat

/- What further draws give. -/
set_option linter.unusedVariables false
set_option linter.unusedSimpArgs false
namespace Go.Wt
def gi (l : List Int) (i : Int) : Int := l.getD i.toNat 0
theorem gi_get {l : List Int} {i : Int} (h0 : 0 ≤ i) (h : i < l.length) : l[i.toNat]? = some (gi l i) := by
  unfold gi
  rw [List.getD_eq_getElem?_getD, List.getElem?_eq_getElem (by omega)]; rfl
def anyPayF (r : Rd) : Pay × Rd :=
  if pk (nx r 3) 12 = 0 then ({ payV r with to := (payV r).frm }, nx r 4) else
  if pk (nx r 3) 12 = 1 then ({ payV r with sum := gi [0, 10] (pk (nx r 4) 2) }, nx r 5) else
  if pk (nx r 3) 12 = 2 then ({ payV r with frm := gi [0, 4] (pk (nx r 4) 2) }, nx r 5) else (payV r, nx r 4)
theorem anyPay_p (r : Rd) : r.p + 4 ≤ (anyPayF r).2.p ∧ (anyPayF r).2.p ≤ r.p + 5 := by
  unfold anyPayF
  repeat' split
  all_goals simp only [nx]
  all_goals omega
/-- A chain, seldom spoilt. -/
def offAt (c : List Itm) (r : Rd) : List Itm × Rd :=
  if pk r 16 = 0 then (c ++ [⟨pk (nx r 1) 4, (anyPayF (nx r 2)).1⟩], (anyPayF (nx r 2)).2) else
  if pk r 16 = 1 then (if 0 < c.length then (c.set (pk (nx r 1) c.length).toNat { c.getD (pk (nx r 1) c.length).toNat Itm.zero with epoch := gi [0, 30, 31] (pk (nx r 2) 3) }, nx r 3) else (c, nx r 1)) else
  if pk r 16 = 2 then (if 0 < c.length then (c.set (pk (nx r 1) c.length).toNat { c.getD (pk (nx r 1) c.length).toNat Itm.zero with pay := (anyPayF (nx r 2)).1 }, (anyPayF (nx r 2)).2) else (c, nx r 1)) else (c, nx r 1)
def offF (r : Rd) : List Itm × Rd := offAt (chainV r) (chainR r)
theorem offAt_p (c : List Itm) (r : Rd) : r.p ≤ (offAt c r).2.p ∧ (offAt c r).2.p ≤ r.p + 8 ∧ (offAt c r).1.length ≤ c.length + 1 := by
  have := anyPay_p (nx r 2)
  have e : (nx r 2).p = r.p + 2 := rfl
  unfold offAt
  repeat' split
  all_goals simp only [nx, List.length_append, List.length_set, List.length_cons, List.length_nil] at *
  all_goals omega
theorem off_far {m m' : Int} {r : Rd} (h : Far m r) (hm : m ≤ 900000) (hm' : m + 40 ≤ m') : Far m' (offF r).2 := by
  have h1 := chainR_far h (by omega)
  have := offAt_p (chainV r) (chainR r)
  unfold offF
  unfold Far at *
  omega
theorem off_len {m : Int} {r : Rd} (h : Far m r) (hm : m ≤ 900000) : (offF r).1.length ≤ 7 := by
  have h1 := chainV_len h (by omega)
  have := offAt_p (chainV r) (chainR r)
  unfold offF
  omega
theorem chainR_ge {m : Int} {r : Rd} (h : Far m r) (hm : m ≤ 1000000) : r.p ≤ (chainR r).p := by
  have := pk_bd h hm 7
  rw [chainR_eq]; simp only [nx]; omega
theorem off_ge {m : Int} {r : Rd} (h : Far m r) (hm : m ≤ 900000) : r.p ≤ (offF r).2.p := by
  have h1 := chainR_ge h (by omega)
  have := offAt_p (chainV r) (chainR r)
  unfold offF
  omega
/-- A vote's chain, if nothing is drawn. -/
def voteC (c : List Itm) (r : Rd) : List Itm × Rd :=
  if c.length = 0 then (if 0 < pk r 4 then ([⟨1 + pk (nx r 1) 3, payV (nx r 2)⟩], nx r 5) else (c, nx r 1)) else (c, r)
def voteB (b : Int) (r : Rd) : Int × Rd := if pk r 16 = 0 then (gi [0, 5] (pk (nx r 1) 2), nx r 2) else (b, nx r 1)
def voteDF (r : Rd) : Vote × Rd :=
  (⟨(voteB (1 + pk r 4) (voteC (offF (nx r 1)).1 (offF (nx r 1)).2).2).1, (voteC (offF (nx r 1)).1 (offF (nx r 1)).2).1⟩, (voteB (1 + pk r 4) (voteC (offF (nx r 1)).1 (offF (nx r 1)).2).2).2)
theorem voteC_p (c : List Itm) (r : Rd) : r.p ≤ (voteC c r).2.p ∧ (voteC c r).2.p ≤ r.p + 5 ∧ (voteC c r).1.length ≤ c.length + 1 := by
  unfold voteC
  repeat' split
  all_goals simp only [nx, List.length_cons, List.length_nil]
  all_goals omega
theorem voteB_p (b : Int) (r : Rd) : r.p ≤ (voteB b r).2.p ∧ (voteB b r).2.p ≤ r.p + 2 := by
  unfold voteB
  split <;> simp only [nx] <;> omega
theorem voteD_p {m : Int} {r : Rd} (h : Far m r) (hm : m ≤ 800000) : r.p ≤ (voteDF r).2.p ∧ (voteDF r).2.p ≤ m + 60 ∧ (voteDF r).1.chain.length ≤ 8 := by
  have h1 : Far (m + 1) (nx r 1) := h.nx (by omega) (by omega)
  have h2 := off_far h1 (by omega) (Int.le_refl _)
  have h2' := off_ge h1 (by omega)
  have h3 := off_len h1 (by omega)
  have h4 := voteC_p (offF (nx r 1)).1 (offF (nx r 1)).2
  have h5 := voteB_p (1 + pk r 4) (voteC (offF (nx r 1)).1 (offF (nx r 1)).2).2
  have e : (nx r 1).p = r.p + 1 := rfl
  unfold voteDF
  unfold Far at h2
  simp only
  omega
theorem voteD_far {m m' : Int} {r : Rd} (h : Far m r) (hm : m ≤ 800000) (hm' : m + 60 ≤ m') : Far m' (voteDF r).2 := by
  have := voteD_p h hm
  unfold Far at *
  omega
instance (n : Nod) : Grow Vote (.v (sN n).seen) n.seen := inferInstanceAs (Grow Vote (.v (OList.mk n.seen true)) n.seen)
instance (w : Wrld) : Grow Vote (.v (sW w).log) w.log := inferInstanceAs (Grow Vote (.v (OList.mk w.log true)) w.log)
/-- A world of a drawn one's size. -/
structure Lw (w : Wrld) : Prop where
  ep : -100 ≤ w.epoch ∧ w.epoch ≤ 100
  four : w.nodes.length = 4
  ll : w.log.length ≤ 100
  lc : ∀ v ∈ w.log, v.chain.length ≤ 30
  sl : ∀ n ∈ w.nodes, n.seen.length ≤ 100 ∧ ∀ v ∈ n.seen, v.chain.length ≤ 30
theorem tipS_len {l : List Vote} {k : Nat} (h : ∀ v ∈ l, v.chain.length ≤ k) : (tipOfS l).length ≤ k := by
  rcases tip_mem (allOfS l) [] with e | e
  · unfold tipOfS; rw [e]; simp
  · rcases allStepS_mem l l [[]] _ e with e | ⟨v, h1, h2⟩
    · unfold tipOfS; simp at e; rw [e]; simp
    · unfold tipOfS; rw [← h2]; exact h v h1
theorem FineX.lw {w : Wrld} (h : FineX w) : Lw w :=
  ⟨by have := h.fine.ep; omega, h.four, by have := h.fine.ll; omega, fun v hv => by have := chainOk_len (voteOk_chain (h.fine.log.ok v hv)); omega, fun n hn =>
    ⟨by have := h.fine.sl n hn; omega, fun v hv => by have := chainOk_len (voteOk_chain ((h.fine.seen n hn).ok v hv)); omega⟩⟩
end Go.Wt

/- The reference: further draws. -/
set_option linter.unusedVariables false
set_option linter.unusedSimpArgs false
namespace Go.Proofs.YtmdhfalfppkpeaaGreat
open Go Go.Wt
set_option maxHeartbeats 1000000 in
theorem anyPay_ct (r : Rd) (hp : Far 800000 r) : CtO Tryz.prog 73 [.box 0 (IsLens.whole Rd)] [(0, .cell r)] (.v (anyPayF r).1) [(0, .cell (anyPayF r).2)] := by
  have hp3 : Far 800003 (nx r 3) := hp.nx (by omega) (by omega)
  have hp4 : Far 800004 (nx (nx r 3) 1) := hp3.nx (by omega) (by omega)
  have e4 : nx (nx r 3) 1 = nx r 4 := nx_nx r 3 1
  have e5 : nx (nx (nx r 3) 1) 1 = nx r 5 := by rw [e4]; exact nx_nx r 4 1
  have b2 := pk_bd hp4 (by omega) 2
  have c2 := b2.2 (by omega)
  have g1 := gi_get (l := [0, 10]) b2.1 (by simp; omega)
  have g2 := gi_get (l := [0, 4]) b2.1 (by simp; omega)
  refine Ct.intro Tryz.func73 rfl rfl ?_
  all_goals refine awp_seq (awp_region (id := 0) ?_)
  all_goals refine awpOps_cons (op_alloc (o := 2) z58 rfl rfl) ?_
  all_goals refine awpOps_nil ?_
  all_goals refine awp_seq (awp_region (id := 1) ?_)
  all_goals refine awpOps_cons (op_mv rfl (Conv.of rfl) rfl) ?_
  all_goals refine awpOps_cons (op_callO fb87 (.cons rfl (Conv.of rfl) (.nil _)) (l71Pay_ct r (hp.weak (by omega))) (olsk rfl ols0) (oksk (by exact obOk_cell) oks0) (oksk (by exact obOk_cell) oks0) rfl (argOb rfl rfl rfl argO0) (fun o ho => by cases ho) rfl) ?_
  all_goals refine awpOps_cons (op_alloc (o := 3) z58 rfl rfl) ?_
  all_goals refine awpOps_cons (op_st ty58 rfl rfl (Conv.of rfl) rfl) ?_
  all_goals refine awpOps_nil ?_
  all_goals refine awp_seq (awp_seq (awp_region (id := 2) ?_))
  all_goals refine awpOps_cons (op_mv rfl (Conv.of rfl) rfl) ?_
  all_goals refine awpOps_cons (op_callO fb54 (.cons rfl (Conv.of rfl) (.cons rfl (Conv.of rfl) (.nil _))) (pick_ct (nx r 3) 12 (by unfold Far at hp3; omega)) (olsk rfl ols0) (oksk (by exact obOk_cell) oks0) (oksk (by exact obOk_cell) oks0) rfl (argOb rfl rfl rfl (argOk' rfl rfl argO0)) (fun o ho => by cases ho) rfl) ?_
  all_goals refine awpOps_nil ?_
  refine awp_to (s' := mkSt 30 [(2, .box 2 (IsLens.whole Pay)), (3, .box 3 (IsLens.whole Pay))] [(0, .cell (anyPayF r).2), (2, .cell Pay.zero), (3, .cell (anyPayF r).1)]) ?_ ?_
  · refine awp_block ?_
    all_goals refine awp_seq (awp_region (id := 3) ?_)
    all_goals refine awpOps_cons (op_eql rfl rfl rfl) ?_
    all_goals refine awpOps_cons (op_as rfl (Conv.of rfl) rfl) ?_
    all_goals refine awpOps_nil ?_
    refine awp_cond rfl (fun h => ?_) (fun h => ?_)
    · have hk := of_decide_eq_true h
      rw [show anyPayF r = ({ payV r with to := (payV r).frm }, nx (nx r 3) 1) by unfold anyPayF; rw [if_pos hk, e4]]
      all_goals refine awp_region (id := 4) ?_
      all_goals refine awpOps_cons (op_fab f58_0 rfl rfl) ?_
      all_goals refine awpOps_cons (op_ld ty3 rfl rfl rfl) ?_
      all_goals refine awpOps_cons (op_fab f58_1 rfl rfl) ?_
      all_goals refine awpOps_cons (op_st ty3 rfl rfl (Conv.of rfl) rfl) ?_
      all_goals refine awpOps_nil ?_
      repeat first | refine nx_seq ?_ | refine nx_block ?_
      all_goals exact Le.mk rfl (tlb rfl rfl rfl (tlb rfl rfl rfl tln)) (olk rfl (by exact obOk_cell) (olk rfl (by exact obOk_cell) (olk rfl (by exact obOk_cell) oln))) (hS_sub (a := [(0, .cell r)]) rfl)
    · have hk := of_decide_eq_false h
      all_goals refine awp_seq (awp_region (id := 5) ?_)
      all_goals refine awpOps_cons (op_eql rfl rfl rfl) ?_
      all_goals refine awpOps_cons (op_as rfl (Conv.of rfl) rfl) ?_
      all_goals refine awpOps_nil ?_
      refine awp_cond rfl (fun h2 => ?_) (fun h2 => ?_)
      · have hk2 := of_decide_eq_true h2
        rw [show anyPayF r = ({ payV r with sum := gi [0, 10] (pk (nx (nx r 3) 1) 2) }, nx (nx (nx r 3) 1) 1) by unfold anyPayF; rw [if_neg hk, if_pos hk2, e5, e4]]
        all_goals refine awp_region (id := 6) ?_
        all_goals refine awpOps_cons (op_bsl sl61 z3 (.cons rfl (Conv.of rfl) (.cons rfl (Conv.of rfl) (.nil _))) rfl (by decide) rfl) ?_
        all_goals refine awpOps_cons (op_mv rfl (Conv.of rfl) rfl) ?_
        all_goals refine awpOps_cons (op_callO fb54 (.cons rfl (Conv.of rfl) (.cons rfl (Conv.of rfl) (.nil _))) (pick_ct (nx (nx r 3) 1) 2 (by unfold Far at hp4; omega)) (olsk rfl ols0) (oksk (by exact obOk_cell) oks0) (oksk (by exact obOk_cell) oks0) rfl (argOb rfl rfl rfl (argOk' rfl rfl argO0)) (fun o ho => by cases ho) rfl) ?_
        all_goals refine awpOps_cons (op_ix sl61 rfl rfl rfl b2.1 g1) ?_
        all_goals refine awpOps_cons (op_ldr ty3 rfl rfl) ?_
        all_goals refine awpOps_cons (op_fab f58_2 rfl rfl) ?_
        all_goals refine awpOps_cons (op_st ty3 rfl rfl (Conv.of rfl) rfl) ?_
        all_goals refine awpOps_nil ?_
        repeat first | refine nx_seq ?_ | refine nx_block ?_
        all_goals exact Le.mk rfl (tlb rfl rfl rfl (tlb rfl rfl rfl tln)) (olk rfl (by exact obOk_cell) (olk rfl (by exact obOk_cell) (olk rfl (by exact obOk_cell) oln))) (hS_sub (a := [(0, .cell r)]) rfl)
      · have hk2 := of_decide_eq_false h2
        all_goals refine awp_seq (awp_region (id := 7) ?_)
        all_goals refine awpOps_cons (op_eql rfl rfl rfl) ?_
        all_goals refine awpOps_cons (op_as rfl (Conv.of rfl) rfl) ?_
        all_goals refine awpOps_nil ?_
        refine awp_cond rfl (fun h3 => ?_) (fun h3 => ?_)
        · have hk3 := of_decide_eq_true h3
          rw [show anyPayF r = ({ payV r with frm := gi [0, 4] (pk (nx (nx r 3) 1) 2) }, nx (nx (nx r 3) 1) 1) by unfold anyPayF; rw [if_neg hk, if_neg hk2, if_pos hk3, e5, e4]]
          all_goals refine awp_region (id := 8) ?_
          all_goals refine awpOps_cons (op_bsl sl61 z3 (.cons rfl (Conv.of rfl) (.cons rfl (Conv.of rfl) (.nil _))) rfl (by decide) rfl) ?_
          all_goals refine awpOps_cons (op_mv rfl (Conv.of rfl) rfl) ?_
          all_goals refine awpOps_cons (op_callO fb54 (.cons rfl (Conv.of rfl) (.cons rfl (Conv.of rfl) (.nil _))) (pick_ct (nx (nx r 3) 1) 2 (by unfold Far at hp4; omega)) (olsk rfl ols0) (oksk (by exact obOk_cell) oks0) (oksk (by exact obOk_cell) oks0) rfl (argOb rfl rfl rfl (argOk' rfl rfl argO0)) (fun o ho => by cases ho) rfl) ?_
          all_goals refine awpOps_cons (op_ix sl61 rfl rfl rfl b2.1 g2) ?_
          all_goals refine awpOps_cons (op_ldr ty3 rfl rfl) ?_
          all_goals refine awpOps_cons (op_fab f58_0 rfl rfl) ?_
          all_goals refine awpOps_cons (op_st ty3 rfl rfl (Conv.of rfl) rfl) ?_
          all_goals refine awpOps_nil ?_
          repeat first | refine nx_seq ?_ | refine nx_block ?_
          all_goals exact Le.mk rfl (tlb rfl rfl rfl (tlb rfl rfl rfl tln)) (olk rfl (by exact obOk_cell) (olk rfl (by exact obOk_cell) (olk rfl (by exact obOk_cell) oln))) (hS_sub (a := [(0, .cell r)]) rfl)
        · have hk3 := of_decide_eq_false h3
          rw [show anyPayF r = (payV r, nx (nx r 3) 1) by unfold anyPayF; rw [if_neg hk, if_neg hk2, if_neg hk3, e4]]
          refine awp_skip ?_
          repeat first | refine nx_seq ?_ | refine nx_block ?_
          all_goals exact Le.mk rfl (tlb rfl rfl rfl (tlb rfl rfl rfl tln)) (olk rfl (by exact obOk_cell) (olk rfl (by exact obOk_cell) (olk rfl (by exact obOk_cell) oln))) (hS_sub (a := [(0, .cell r)]) rfl)
  · all_goals refine awp_seq (awp_region (id := 9) ?_)
    all_goals refine awpOps_cons (op_ld ty58 rfl rfl rfl) ?_
    all_goals refine awpOps_cons (op_st ty58 rfl rfl (Conv.of rfl) rfl) ?_
    all_goals refine awpOps_nil ?_
    refine awp_ret ?_
    repeat first | refine rt_seq ?_ | refine rt_block ?_
    exact finO1 [(0, .cell (anyPayF r).2)] (.rc ty58 rfl rfl) (fun o ho => by cases ho) (olk rfl obOk_cell oln) (hS_keys rfl) rfl
set_option maxHeartbeats 1000000 in
theorem chainA_ct (r : Rd) (hp : Far 800000 r) : CtO Tryz.prog 170 [.box 0 (IsLens.whole Rd)] [(0, .cell r)] (.v (NRef.ref 2)) [(0, .cell (chainR r)), (2, .arr (chainV r))] := by
  have b0 := pk_bd hp (by omega) 7
  have c0 := b0.2 (by omega)
  refine Ct.intro Tryz.func170 rfl rfl ?_
  all_goals refine awp_seq (awp_region (id := 0) ?_)
  all_goals refine awpOps_cons (op_as rfl (Conv.of rfl) rfl) ?_
  all_goals refine awpOps_nil ?_
  all_goals refine awp_seq (awp_region (id := 1) ?_)
  all_goals refine awpOps_cons (op_bsa (o := 2) sl34 z60 (.nil _) rfl (by decide) rfl rfl) ?_
  all_goals refine awpOps_cons (op_as rfl (Conv.nr) rfl) ?_
  all_goals refine awpOps_nil ?_
  all_goals refine awp_seq (awp_region (id := 2) ?_)
  all_goals refine awpOps_cons (op_as rfl (Conv.of rfl) rfl) ?_
  all_goals refine awpOps_nil ?_
  all_goals refine awp_seq (awp_seq (awp_region (id := 3) ?_))
  all_goals refine awpOps_cons (op_mv rfl (Conv.of rfl) rfl) ?_
  all_goals refine awpOps_cons (op_callO fb54 (.cons rfl (Conv.of rfl) (.cons rfl (Conv.of rfl) (.nil _))) (pick_ct r 7 (by unfold Far at hp; omega)) (olsk rfl ols0) (oksk (by exact obOk_cell) oks0) (oksk (by exact obOk_cell) oks0) rfl (argOb rfl rfl rfl (argOk' rfl rfl argO0)) (fun o ho => by cases ho) rfl) ?_
  all_goals refine awpOps_cons (op_as rfl (Conv.of rfl) rfl) ?_
  all_goals refine awpOps_nil ?_
  refine awp_block ?_
  refine awp_loop' (fun n_ s => ∃ (k : Nat), ∃ (hk : n_ + k = (pk r 7).toNat), s = mkSt 30 [(3, .v (NRef.ref 2)), (0, .box 0 (IsLens.whole Rd)), (4, .v (chIter r k).1), (5, .v (pk r 7 - (k : Int)))] [(2, .arr (chIter r k).2.1), (0, .cell (chIter r k).2.2)]) ((pk r 7).toNat) ⟨0, by omega, rfl⟩ (Le.mk rfl (tlb rfl rfl rfl (tlb rfl rfl rfl (tle rfl (rfl) rfl (tle rfl (by (show AV.v _ = AV.v _; congr 1; omega)) rfl tln)))) (olk rfl (by exact obOk_arr) (olk rfl (by exact obOk_cell) oln)) (hS_sub (a := [(0, .cell r)]) rfl)) ?_
  rintro n_ s ⟨k, hk, rfl⟩
  have hk6 : k ≤ 6 := by omega
  have hat := chIter_at hp (by omega) k (by omega)
  have hf0 : Far 800500 (chIter r k).2.2 := by rw [chIter_r]; exact hp.nx (by omega) (by omega)
  have hln := chIter_len r k
  all_goals refine awp_seq (awp_seq (awp_region (id := 4) ?_))
  all_goals refine awpOps_cons (op_mv rfl (Conv.of rfl) rfl) ?_
  all_goals refine awpOps_cons (op_gtr rfl rfl rfl) ?_
  all_goals refine awpOps_nil ?_
  refine awp_cond rfl (fun h => ?_) (fun h => ?_)
  · have hlt : (k : Int) < pk r 7 := by have := of_decide_eq_true h; omega
    have hst : chIter r (k + 1) = chStep (chIter r k) := rfl
    generalize hs : chIter r k = s at hat hf0 hln hst
    have hf1 : Far 800501 (nx s.2.2 1) := hf0.nx (by omega) (by omega)
    have hf2 : Far 800502 (nx (nx s.2.2 1) 1) := hf1.nx (by omega) (by omega)
    have d0 := pk_bd hf0 (by omega) 6
    have d1 := pk_bd hf1 (by omega) 3
    have e0 := d0.2 (by omega)
    have e1 := d1.2 (by omega)
    have hq : IntKind.i64.wrap ((pk s.2.2 6).tdiv 5) = 0 ∨ IntKind.i64.wrap ((pk s.2.2 6).tdiv 5) = 1 := by
      have : (pk s.2.2 6).tdiv 5 = 0 ∨ (pk s.2.2 6).tdiv 5 = 1 := by
        rw [Int.tdiv_eq_ediv_of_nonneg d0.1]; omega
      rw [wrap_in (by omega)]; exact this
    have hm : 0 ≤ IntKind.i64.wrap ((pk s.2.2 6).tdiv 5) * pk (nx s.2.2 1) 3 ∧ IntKind.i64.wrap ((pk s.2.2 6).tdiv 5) * pk (nx s.2.2 1) 3 ≤ 2 := by
      rcases hq with hq | hq <;> rw [hq] <;> omega
    refine awp_skip ?_
    refine awp_seq (awp_block ?_)
    all_goals refine awp_seq (awp_region (id := 6) ?_)
    all_goals refine awpOps_cons (op_mv rfl (Conv.of rfl) rfl) ?_
    all_goals refine awpOps_cons (op_add rfl rfl rfl (by omega)) ?_
    all_goals refine awpOps_cons (op_mv rfl (Conv.of rfl) rfl) ?_
    all_goals refine awpOps_cons (op_callO fb54 (.cons rfl (Conv.of rfl) (.cons rfl (Conv.of rfl) (.nil _))) (pick_ct s.2.2 6 (by unfold Far at hf0; omega)) (olsk rfl ols0) (oksk (by exact obOk_cell) oks0) (oksk (by exact obOk_cell) oks0) rfl (argOb rfl rfl rfl (argOk' rfl rfl argO0)) (fun o ho => by cases ho) rfl) ?_
    all_goals refine awpOps_cons (op_quo rfl rfl rfl (by decide)) ?_
    all_goals refine awpOps_cons (op_mv rfl (Conv.of rfl) rfl) ?_
    all_goals refine awpOps_cons (op_callO fb54 (.cons rfl (Conv.of rfl) (.cons rfl (Conv.of rfl) (.nil _))) (pick_ct (nx s.2.2 1) 3 (by unfold Far at hf1; omega)) (olsk rfl ols0) (oksk (by exact obOk_cell) oks0) (oksk (by exact obOk_cell) oks0) rfl (argOb rfl rfl rfl (argOk' rfl rfl argO0)) (fun o ho => by cases ho) rfl) ?_
    all_goals refine awpOps_cons (op_mul rfl rfl rfl (by omega)) ?_
    all_goals refine awpOps_cons (op_add rfl rfl rfl (by omega)) ?_
    all_goals refine awpOps_cons (op_as rfl (Conv.of rfl) rfl) ?_
    all_goals refine awpOps_nil ?_
    refine awp_toB (s' := mkSt 30 [(3, .v (NRef.ref 3)), (0, .box 0 (IsLens.whole Rd)), (4, .v (chIter r (k + 1)).1), (5, .v (pk r 7 - (k : Int)))] [(3, .arr (chIter r (k + 1)).2.1), (0, .cell (chIter r (k + 1)).2.2)]) ?_ ?_
    · all_goals refine awp_region (id := 7) ?_
      all_goals refine awpOps_cons (op_mv rfl (Conv.of rfl) rfl) ?_
      all_goals refine awpOps_cons (op_mv rfl (Conv.of rfl) rfl) ?_
      all_goals refine awpOps_cons (op_mv rfl (Conv.of rfl) rfl) ?_
      all_goals refine awpOps_cons (op_callO fb87 (.cons rfl (Conv.of rfl) (.nil _)) (l71Pay_ct (nx (nx s.2.2 1) 1) (hf2.weak (by omega))) (olsk rfl ols0) (oksk (by exact obOk_cell) oks0) (oksk (by exact obOk_cell) oks0) rfl (argOb rfl rfl rfl argO0) (fun o ho => by cases ho) rfl) ?_
      all_goals refine awpOps_cons (op_build (.cons f60_0 rfl (Conv.of rfl) (.cons f60_1 rfl (Conv.of rfl) (.nil _))) z60 rfl pl60 rfl) ?_
      all_goals refine awpOps_cons (op_bsl sl34 z60 (.cons rfl (Conv.of rfl) (.nil _)) rfl (by decide) rfl) ?_
      all_goals refine awpOps_cons (op_apA (o' := 3) sl34 z60 ul34 rfl rfl rfl rfl (by simp) (by (simp; omega)) (by (simp; omega)) rfl) ?_
      all_goals refine awpOps_cons (op_as rfl (Conv.of rfl) rfl) ?_
      all_goals refine awpOps_nil ?_
      all_goals exact Le.mk rfl (tlb rfl rfl rfl (tlb rfl rfl rfl (tle rfl (by (rw [hst]; rfl)) rfl (tle rfl (rfl) rfl tln)))) (olk (by (rw [hst]; simp only [chStep, nx_nx]; rfl)) (by exact obOk_arr) (olk (by (rw [hst]; simp only [chStep, nx_nx]; rfl)) (by exact obOk_cell) oln)) (hS_sub (a := [(0, .cell r)]) rfl)
    refine awp_le (Le.ren (o := 3) (o' := 2) (t := 3) rfl (hS_sub rfl) rfl rfl rfl (oblk obOk_cell obl0) (fun x _ => Plain.refs_eq x)) ?_
    all_goals refine awp_region (id := 5) ?_
    all_goals refine awpOps_cons (op_mv rfl (Conv.of rfl) rfl) ?_
    all_goals refine awpOps_cons (op_sub rfl rfl rfl (by omega)) ?_
    all_goals refine awpOps_cons (op_as rfl (Conv.of rfl) rfl) ?_
    all_goals refine awpOps_nil ?_
    repeat first | refine nx_seq ?_ | refine nx_block ?_
    exact ⟨n_ - 1, _, by omega, ⟨k + 1, by omega, rfl⟩, Le.mk rfl (tlb rfl rfl rfl (tlb rfl rfl rfl (tle rfl (rfl) rfl (tle rfl (by (show AV.v _ = AV.v _; congr 1; omega)) rfl tln)))) (olk rfl (by exact obOk_arr) (olk rfl (by exact obOk_cell) oln)) (hS_sub (a := [(0, .cell r)]) rfl)⟩
  · refine awp_exit ?_
    repeat refine ex_seq ?_
    refine ex_block ?_
    have hge : pk r 7 - (k : Int) ≤ 0 := by have := of_decide_eq_false h; omega
    have hk' : k = (pk r 7).toNat := by omega
    all_goals refine awp_seq (awp_region (id := 8) ?_)
    all_goals refine awpOps_cons (op_mv rfl (Conv.of rfl) rfl) ?_
    all_goals refine awpOps_cons (op_as rfl (Conv.of rfl) rfl) ?_
    all_goals refine awpOps_nil ?_
    refine awp_ret ?_
    repeat first | refine rt_seq ?_ | refine rt_block ?_
    subst hk'
    exact finO1 [(0, .cell (chainR r)), (2, .arr (chainV r))] (.v rfl (Conv.of rfl)) (fun o ho => (by have h2 : o = 2 := (by simpa using (show o ∈ [2] from ho)); (subst h2; rfl))) (olk rfl obOk_cell (olk rfl obOk_arr oln)) (hS_sub rfl) rfl
set_option maxHeartbeats 4000000 in
theorem off_ct (r : Rd) (hp : Far 700000 r) : CtO Tryz.prog 142 [.box 0 (IsLens.whole Rd)] [(0, .cell r)] (.v (offF r).1) [(0, .cell (offF r).2)] := by
  have hc6 := chainV_len hp (by omega)
  have hf1 := chainR_far hp (by omega)
  have hch := chainA_ct r (hp.weak (by omega))
  unfold offF
  generalize chainV r = c at hc6 hch ⊢
  generalize chainR r = r1 at hf1 hch ⊢
  have hf2 : Far 700032 (nx r1 1) := hf1.nx (by omega) (by omega)
  have hf3 : Far 700033 (nx (nx r1 1) 1) := hf2.nx (by omega) (by omega)
  have e2 : nx (nx r1 1) 1 = nx r1 2 := nx_nx r1 1 1
  have e3 : nx (nx (nx r1 1) 1) 1 = nx r1 3 := by rw [e2]; exact nx_nx r1 2 1
  have b3 := pk_bd hf3 (by omega) 3
  have c3 := b3.2 (by omega)
  have g3 := gi_get (l := [0, 30, 31]) b3.1 (by simp; omega)
  have bc := pk_bd hf2 (by omega) (c.length : Int)
  have hx : 0 < c.length → c[(pk (nx r1 1) (c.length : Int)).toNat]? = some (c.getD (pk (nx r1 1) (c.length : Int)).toNat Itm.zero) := fun h0 => by
    have := bc.2 (by omega)
    rw [List.getD_eq_getElem?_getD, List.getElem?_eq_getElem (show (pk (nx r1 1) (c.length : Int)).toNat < c.length by omega)]; rfl
  refine Ct.intro Tryz.func142 rfl rfl ?_
  all_goals refine awp_seq (awp_region (id := 0) ?_)
  all_goals refine awpOps_cons (op_as rfl (Conv.of rfl) rfl) ?_
  all_goals refine awpOps_nil ?_
  all_goals refine awp_seq (awp_region (id := 1) ?_)
  all_goals refine awpOps_cons (op_mv rfl (Conv.of rfl) rfl) ?_
  refine awpOps_callO [(0, .cell r)] rfl fb170 (.cons rfl (Conv.of rfl) (.nil _)) hch (olsk rfl ols0) (oksk obOk_cell oks0) (argOb rfl rfl rfl argO0) rfl ?_
  rintro r_ h' ⟨rfl, rfl⟩
  refine ⟨[(0, .cell r1), (2, .arr c)], rfl, fun o ho => ?_, fun o ho h1 => ?_, oksk obOk_cell (oksk obOk_arr oks0), fun o ho => ?_, ?_⟩
  · have : o = 0 := by simpa [keys, lk0] using ho
    subst this; rfl
  · by_cases e0 : o = 0
    · subst e0; cases h1
    · have : o = 2 := by simpa [keys, lk0, e0] using ho
      subst this; rfl
  · have : o = 2 := by simpa using (show o ∈ [2] from ho)
    subst this; rfl
  all_goals refine awpOps_cons (op_as rfl (Conv.of rfl) rfl) ?_
  all_goals refine awpOps_nil ?_
  all_goals refine awp_seq (awp_seq (awp_region (id := 2) ?_))
  all_goals refine awpOps_cons (op_mv rfl (Conv.of rfl) rfl) ?_
  all_goals refine awpOps_cons (op_callO fb54 (.cons rfl (Conv.of rfl) (.cons rfl (Conv.of rfl) (.nil _))) (pick_ct r1 16 (by unfold Far at hf1; omega)) (olsk rfl ols0) (oksk (by exact obOk_cell) oks0) (oksk (by exact obOk_cell) oks0) rfl (argOb rfl rfl rfl (argOk' rfl rfl argO0)) (fun o ho => by cases ho) rfl) ?_
  all_goals refine awpOps_nil ?_
  refine awp_to (s' := mkSt 50 [(3, .v (offAt c r1).1), (0, .box 0 (IsLens.whole Rd))] [(0, .cell (offAt c r1).2)]) ?_ ?_
  · refine awp_block ?_
    all_goals refine awp_seq (awp_region (id := 3) ?_)
    all_goals refine awpOps_cons (op_eql rfl rfl rfl) ?_
    all_goals refine awpOps_cons (op_as rfl (Conv.of rfl) rfl) ?_
    all_goals refine awpOps_nil ?_
    refine awp_cond rfl (fun h => ?_) (fun h => ?_)
    · have hk := of_decide_eq_true h
      rw [show offAt c r1 = (c ++ [⟨pk (nx r1 1) 4, (anyPayF (nx (nx r1 1) 1)).1⟩], (anyPayF (nx (nx r1 1) 1)).2) by unfold offAt; rw [if_pos hk, e2]]
      all_goals refine awp_region (id := 4) ?_
      all_goals refine awpOps_cons (op_mv rfl (Conv.of rfl) rfl) ?_
      all_goals refine awpOps_cons (op_mv rfl (Conv.of rfl) rfl) ?_
      all_goals refine awpOps_cons (op_callO fb54 (.cons rfl (Conv.of rfl) (.cons rfl (Conv.of rfl) (.nil _))) (pick_ct (nx r1 1) 4 (by unfold Far at hf2; omega)) (olsk rfl ols0) (oksk (by exact obOk_cell) oks0) (oksk (by exact obOk_cell) oks0) rfl (argOb rfl rfl rfl (argOk' rfl rfl argO0)) (fun o ho => by cases ho) rfl) ?_
      all_goals refine awpOps_cons (op_mv rfl (Conv.of rfl) rfl) ?_
      all_goals refine awpOps_cons (op_callO fb73 (.cons rfl (Conv.of rfl) (.nil _)) (anyPay_ct (nx (nx r1 1) 1) (hf3.weak (by omega))) (olsk rfl ols0) (oksk (by exact obOk_cell) oks0) (oksk (by exact obOk_cell) oks0) rfl (argOb rfl rfl rfl argO0) (fun o ho => by cases ho) rfl) ?_
      all_goals refine awpOps_cons (op_build (.cons f60_0 rfl (Conv.of rfl) (.cons f60_1 rfl (Conv.of rfl) (.nil _))) z60 rfl pl60 rfl) ?_
      all_goals refine awpOps_cons (op_bsl sl34 z60 (.cons rfl (Conv.of rfl) (.nil _)) rfl (by decide) rfl) ?_
      all_goals refine awpOps_cons (op_apA (o' := 3) sl34 z60 ul34 rfl rfl rfl rfl (by simp) (by (simp; omega)) (by (simp; omega)) rfl) ?_
      all_goals refine awpOps_cons (op_as rfl (Conv.of rfl) rfl) ?_
      all_goals refine awpOps_nil ?_
      repeat first | refine nx_seq ?_ | refine nx_block ?_
      exact Le.trans (Le.mk rfl (tlb rfl rfl rfl (tlb rfl rfl rfl tln)) (olk rfl (by exact obOk_arr) (olk rfl (by exact obOk_cell) oln)) (hS_sub (a := [(0, .cell r)]) rfl)) (Le.frz (o := 3) (t := 3) (by show _ ≤ 4611686018427387904; simp; omega) (hS_sub rfl) rfl rfl (oblk obOk_cell obl0))
    · have hk := of_decide_eq_false h
      all_goals refine awp_seq (awp_region (id := 5) ?_)
      all_goals refine awpOps_cons (op_eql rfl rfl rfl) ?_
      all_goals refine awpOps_cons (op_as rfl (Conv.of rfl) rfl) ?_
      all_goals refine awpOps_nil ?_
      refine awp_cond rfl (fun h2 => ?_) (fun h2 => ?_)
      · have hk2 := of_decide_eq_true h2
        all_goals refine awp_seq (awp_region (id := 6) ?_)
        all_goals refine awpOps_cons (op_mv rfl (Conv.of rfl) rfl) ?_
        all_goals refine awpOps_cons (op_lenA sl34 rfl rfl rfl) ?_
        all_goals refine awpOps_cons (op_gtr rfl rfl rfl) ?_
        all_goals refine awpOps_nil ?_
        refine awp_cond rfl (fun h3 => ?_) (fun h3 => ?_)
        · have hpos : 0 < c.length := by have := of_decide_eq_true h3; omega
          have hlt := bc.2 (by omega)
          rw [show offAt c r1 = (c.set (pk (nx r1 1) c.length).toNat { c.getD (pk (nx r1 1) c.length).toNat Itm.zero with epoch := gi [0, 30, 31] (pk (nx (nx r1 1) 1) 3) }, nx (nx (nx r1 1) 1) 1) by unfold offAt; rw [if_neg hk, if_pos hk2, if_pos hpos, e3, e2]]
          all_goals refine awp_region (id := 7) ?_
          all_goals refine awpOps_cons (op_mv rfl (Conv.of rfl) rfl) ?_
          all_goals refine awpOps_cons (op_mv rfl (Conv.of rfl) rfl) ?_
          all_goals refine awpOps_cons (op_mv rfl (Conv.of rfl) rfl) ?_
          all_goals refine awpOps_cons (op_lenA sl34 rfl rfl rfl) ?_
          all_goals refine awpOps_cons (op_callO fb54 (.cons rfl (Conv.of rfl) (.cons rfl (Conv.of rfl) (.nil _))) (pick_ct (nx r1 1) (c.length : Int) (by unfold Far at hf2; omega)) (olsk rfl ols0) (oksk (by exact obOk_cell) oks0) (oksk (by exact obOk_cell) oks0) rfl (argOb rfl rfl rfl (argOk' rfl rfl argO0)) (fun o ho => by cases ho) rfl) ?_
          all_goals refine awpOps_cons (op_bsl sl61 z3 (.cons rfl (Conv.of rfl) (.cons rfl (Conv.of rfl) (.cons rfl (Conv.of rfl) (.nil _)))) rfl (by decide) rfl) ?_
          all_goals refine awpOps_cons (op_mv rfl (Conv.of rfl) rfl) ?_
          all_goals refine awpOps_cons (op_callO fb54 (.cons rfl (Conv.of rfl) (.cons rfl (Conv.of rfl) (.nil _))) (pick_ct (nx (nx r1 1) 1) 3 (by unfold Far at hf3; omega)) (olsk rfl ols0) (oksk (by exact obOk_cell) oks0) (oksk (by exact obOk_cell) oks0) rfl (argOb rfl rfl rfl (argOk' rfl rfl argO0)) (fun o ho => by cases ho) rfl) ?_
          all_goals refine awpOps_cons (op_ix sl61 rfl rfl rfl b3.1 g3) ?_
          all_goals refine awpOps_cons (op_ldr ty3 rfl rfl) ?_
          all_goals refine awpOps_cons (op_ixA sl34 rfl rfl rfl rfl ⟨bc.1, by omega⟩) ?_
          all_goals refine awpOps_cons (op_fae f60_0 rfl rfl) ?_
          all_goals refine awpOps_cons (op_ste ty3 rfl rfl (Conv.of rfl) rfl (hx hpos)) ?_
          all_goals refine awpOps_nil ?_
          repeat first | refine nx_seq ?_ | refine nx_block ?_
          exact Le.trans (Le.mk rfl (tlb rfl rfl rfl (tlb rfl rfl rfl tln)) (olk rfl (by exact obOk_arr) (olk rfl (by exact obOk_cell) oln)) (hS_sub (a := [(0, .cell r)]) rfl)) (Le.frz (o := 2) (t := 3) (by show _ ≤ 4611686018427387904; simp; omega) (hS_sub rfl) rfl rfl (oblk obOk_cell obl0))
        · have hpos : ¬ 0 < c.length := by have := of_decide_eq_false h3; omega
          rw [show offAt c r1 = (c, nx r1 1) by unfold offAt; rw [if_neg hk, if_pos hk2, if_neg hpos]]
          refine awp_skip ?_
          repeat first | refine nx_seq ?_ | refine nx_block ?_
          exact Le.trans (Le.mk rfl (tlb rfl rfl rfl (tlb rfl rfl rfl tln)) (olk rfl (by exact obOk_arr) (olk rfl (by exact obOk_cell) oln)) (hS_sub (a := [(0, .cell r)]) rfl)) (Le.frz (o := 2) (t := 3) (by show _ ≤ 4611686018427387904; omega) (hS_sub rfl) rfl rfl (oblk obOk_cell obl0))
      · have hk2 := of_decide_eq_false h2
        all_goals refine awp_seq (awp_region (id := 8) ?_)
        all_goals refine awpOps_cons (op_eql rfl rfl rfl) ?_
        all_goals refine awpOps_cons (op_as rfl (Conv.of rfl) rfl) ?_
        all_goals refine awpOps_nil ?_
        refine awp_cond rfl (fun h3 => ?_) (fun h3 => ?_)
        · have hk3 := of_decide_eq_true h3
          all_goals refine awp_seq (awp_region (id := 9) ?_)
          all_goals refine awpOps_cons (op_mv rfl (Conv.of rfl) rfl) ?_
          all_goals refine awpOps_cons (op_lenA sl34 rfl rfl rfl) ?_
          all_goals refine awpOps_cons (op_gtr rfl rfl rfl) ?_
          all_goals refine awpOps_nil ?_
          refine awp_cond rfl (fun h4 => ?_) (fun h4 => ?_)
          · have hpos : 0 < c.length := by have := of_decide_eq_true h4; omega
            have hlt := bc.2 (by omega)
            rw [show offAt c r1 = (c.set (pk (nx r1 1) c.length).toNat { c.getD (pk (nx r1 1) c.length).toNat Itm.zero with pay := (anyPayF (nx (nx r1 1) 1)).1 }, (anyPayF (nx (nx r1 1) 1)).2) by unfold offAt; rw [if_neg hk, if_neg hk2, if_pos hk3, if_pos hpos, e2]]
            all_goals refine awp_region (id := 10) ?_
            all_goals refine awpOps_cons (op_mv rfl (Conv.of rfl) rfl) ?_
            all_goals refine awpOps_cons (op_mv rfl (Conv.of rfl) rfl) ?_
            all_goals refine awpOps_cons (op_mv rfl (Conv.of rfl) rfl) ?_
            all_goals refine awpOps_cons (op_lenA sl34 rfl rfl rfl) ?_
            all_goals refine awpOps_cons (op_callO fb54 (.cons rfl (Conv.of rfl) (.cons rfl (Conv.of rfl) (.nil _))) (pick_ct (nx r1 1) (c.length : Int) (by unfold Far at hf2; omega)) (olsk rfl ols0) (oksk (by exact obOk_cell) oks0) (oksk (by exact obOk_cell) oks0) rfl (argOb rfl rfl rfl (argOk' rfl rfl argO0)) (fun o ho => by cases ho) rfl) ?_
            all_goals refine awpOps_cons (op_mv rfl (Conv.of rfl) rfl) ?_
            all_goals refine awpOps_cons (op_callO fb73 (.cons rfl (Conv.of rfl) (.nil _)) (anyPay_ct (nx (nx r1 1) 1) (hf3.weak (by omega))) (olsk rfl ols0) (oksk (by exact obOk_cell) oks0) (oksk (by exact obOk_cell) oks0) rfl (argOb rfl rfl rfl argO0) (fun o ho => by cases ho) rfl) ?_
            all_goals refine awpOps_cons (op_ixA sl34 rfl rfl rfl rfl ⟨bc.1, by omega⟩) ?_
            all_goals refine awpOps_cons (op_fae f60_1 rfl rfl) ?_
            all_goals refine awpOps_cons (op_ste ty58 rfl rfl (Conv.of rfl) rfl (hx hpos)) ?_
            all_goals refine awpOps_nil ?_
            repeat first | refine nx_seq ?_ | refine nx_block ?_
            exact Le.trans (Le.mk rfl (tlb rfl rfl rfl (tlb rfl rfl rfl tln)) (olk rfl (by exact obOk_arr) (olk rfl (by exact obOk_cell) oln)) (hS_sub (a := [(0, .cell r)]) rfl)) (Le.frz (o := 2) (t := 3) (by show _ ≤ 4611686018427387904; simp; omega) (hS_sub rfl) rfl rfl (oblk obOk_cell obl0))
          · have hpos : ¬ 0 < c.length := by have := of_decide_eq_false h4; omega
            rw [show offAt c r1 = (c, nx r1 1) by unfold offAt; rw [if_neg hk, if_neg hk2, if_pos hk3, if_neg hpos]]
            refine awp_skip ?_
            repeat first | refine nx_seq ?_ | refine nx_block ?_
            exact Le.trans (Le.mk rfl (tlb rfl rfl rfl (tlb rfl rfl rfl tln)) (olk rfl (by exact obOk_arr) (olk rfl (by exact obOk_cell) oln)) (hS_sub (a := [(0, .cell r)]) rfl)) (Le.frz (o := 2) (t := 3) (by show _ ≤ 4611686018427387904; omega) (hS_sub rfl) rfl rfl (oblk obOk_cell obl0))
        · have hk3 := of_decide_eq_false h3
          rw [show offAt c r1 = (c, nx r1 1) by unfold offAt; rw [if_neg hk, if_neg hk2, if_neg hk3]]
          refine awp_skip ?_
          repeat first | refine nx_seq ?_ | refine nx_block ?_
          exact Le.trans (Le.mk rfl (tlb rfl rfl rfl (tlb rfl rfl rfl tln)) (olk rfl (by exact obOk_arr) (olk rfl (by exact obOk_cell) oln)) (hS_sub (a := [(0, .cell r)]) rfl)) (Le.frz (o := 2) (t := 3) (by show _ ≤ 4611686018427387904; omega) (hS_sub rfl) rfl rfl (oblk obOk_cell obl0))
  · all_goals refine awp_seq (awp_region (id := 11) ?_)
    all_goals refine awpOps_cons (op_mv rfl (Conv.of rfl) rfl) ?_
    all_goals refine awpOps_cons (op_as rfl (Conv.of rfl) rfl) ?_
    all_goals refine awpOps_nil ?_
    refine awp_ret ?_
    repeat first | refine rt_seq ?_ | refine rt_block ?_
    exact finO1 [(0, .cell (offAt c r1).2)] (.v rfl (Conv.of rfl)) (fun o ho => by cases ho) (olk rfl obOk_cell oln) (hS_keys rfl) rfl
set_option maxHeartbeats 4000000 in
theorem voteD_ct (r : Rd) (hp : Far 600000 r) : CtO Tryz.prog 98 [.box 0 (IsLens.whole Rd)] [(0, .cell r)] (.v (voteDF r).1) [(0, .cell (voteDF r).2)] := by
  have b4 := pk_bd hp (by omega) 4
  have c4 := b4.2 (by omega)
  have hf1 : Far 600001 (nx r 1) := hp.nx (by omega) (by omega)
  have hoc := off_ct (nx r 1) (hf1.weak (by omega))
  have hlen := off_len hf1 (by omega)
  have hf2 := off_far (m' := 600041) hf1 (by omega) (by omega)
  unfold voteDF
  generalize offF (nx r 1) = cr at hoc hlen hf2 ⊢
  obtain ⟨c, r2⟩ := cr
  simp only at hoc hlen hf2 ⊢
  have hcp := voteC_p c r2
  have hf3 : Far 600046 (voteC c r2).2 := by unfold Far at hf2 ⊢; omega
  refine Ct.intro Tryz.func98 rfl rfl ?_
  all_goals refine awp_seq (awp_region (id := 0) ?_)
  all_goals refine awpOps_cons (op_alloc (o := 2) z48 rfl rfl) ?_
  all_goals refine awpOps_nil ?_
  all_goals refine awp_seq (awp_region (id := 1) ?_)
  all_goals refine awpOps_cons (op_mv rfl (Conv.of rfl) rfl) ?_
  all_goals refine awpOps_cons (op_callO fb54 (.cons rfl (Conv.of rfl) (.cons rfl (Conv.of rfl) (.nil _))) (pick_ct r 4 (by unfold Far at hp; omega)) (olsk rfl ols0) (oksk (by exact obOk_cell) oks0) (oksk (by exact obOk_cell) oks0) rfl (argOb rfl rfl rfl (argOk' rfl rfl argO0)) (fun o ho => by cases ho) rfl) ?_
  all_goals refine awpOps_cons (op_add rfl rfl rfl (by omega)) ?_
  all_goals refine awpOps_cons (op_mv rfl (Conv.of rfl) rfl) ?_
  all_goals refine awpOps_cons (op_callO fb142 (.cons rfl (Conv.of rfl) (.nil _)) (hoc) (olsk rfl ols0) (oksk (by exact obOk_cell) oks0) (oksk (by exact obOk_cell) oks0) rfl (argOb rfl rfl rfl argO0) (fun o ho => by cases ho) rfl) ?_
  all_goals refine awpOps_cons (op_build (.cons f48_0 rfl (Conv.of rfl) (.cons f48_1 rfl (Conv.of rfl) (.nil _))) z48 rfl pl48 rfl) ?_
  all_goals refine awpOps_cons (op_alloc (o := 3) z48 rfl rfl) ?_
  all_goals refine awpOps_cons (op_st ty48 rfl rfl (Conv.of rfl) rfl) ?_
  all_goals refine awpOps_nil ?_
  refine awp_seq_to (s' := mkSt 37 [(0, .box 0 (IsLens.whole Rd)), (2, .box 2 (IsLens.whole Vote)), (3, .box 3 (IsLens.whole Vote))] [(0, .cell (voteC c r2).2), (2, .cell Vote.zero), (3, .cell (Vote.mk (1 + pk r 4) (voteC c r2).1))]) ?_ ?_
  · have g2 : Far 600042 (nx r2 1) := hf2.nx (by omega) (by omega)
    have g3 : Far 600043 (nx (nx r2 1) 1) := g2.nx (by omega) (by omega)
    have d3 := pk_bd g2 (by omega) 3
    have f3 := d3.2 (by omega)
    have e2 : nx (nx r2 1) 1 = nx r2 2 := nx_nx r2 1 1
    have e5 : nx (nx (nx r2 1) 1) 3 = nx r2 5 := by rw [e2]; exact nx_nx r2 2 3
    all_goals refine awp_seq (awp_region (id := 2) ?_)
    all_goals refine awpOps_cons (op_fab f48_1 rfl rfl) ?_
    all_goals refine awpOps_cons (op_ld ty34 rfl rfl rfl) ?_
    all_goals refine awpOps_cons (op_len sl34 rfl rfl) ?_
    all_goals refine awpOps_cons (op_eql rfl rfl rfl) ?_
    all_goals refine awpOps_cons (op_mv rfl (Conv.of rfl) rfl) ?_
    all_goals refine g_split (t := 14) rfl (fun h => ?_) (fun h => ?_)
    all_goals first | refine awpOps_cons (g_off rfl rfl rfl rfl rfl) ?_ | refine awpOps_cons (g_on rfl rfl rfl (op_mv rfl (Conv.of rfl) rfl)) ?_
    all_goals first | refine awpOps_cons (g_off rfl rfl rfl rfl rfl) ?_ | refine awpOps_cons (g_on rfl rfl rfl (op_callO fb54 (.cons rfl (Conv.of rfl) (.cons rfl (Conv.of rfl) (.nil _))) (pick_ct r2 4 (by unfold Far at hf2; omega)) (olsk rfl ols0) (oksk (by exact obOk_cell) oks0) (oksk (by exact obOk_cell) oks0) rfl (argOb rfl rfl rfl (argOk' rfl rfl argO0)) (fun o ho => by cases ho) rfl)) ?_
    all_goals first | refine awpOps_cons (g_off rfl rfl rfl rfl rfl) ?_ | refine awpOps_cons (g_on rfl rfl rfl (op_gtr rfl rfl rfl)) ?_
    all_goals refine awpOps_cons (op_pick rfl rfl rfl rfl) ?_
    all_goals refine awpOps_nil ?_
    · have hz : c.length = 0 := by have h' : ((c.length : Nat) : Int) = 0 := of_decide_eq_true h; omega
      refine awp_cond rfl (fun h2 => ?_) (fun h2 => ?_)
      · have hk := of_decide_eq_true h2
        rw [show voteC c r2 = ([⟨1 + pk (nx r2 1) 3, payV (nx (nx r2 1) 1)⟩], nx (nx (nx r2 1) 1) 3) by unfold voteC; rw [if_pos hz, if_pos hk, e5, e2]]
        all_goals refine awp_region (id := 3) ?_
        all_goals refine awpOps_cons (op_mv rfl (Conv.of rfl) rfl) ?_
        all_goals refine awpOps_cons (op_callO fb54 (.cons rfl (Conv.of rfl) (.cons rfl (Conv.of rfl) (.nil _))) (pick_ct (nx r2 1) 3 (by unfold Far at g2; omega)) (olsk rfl ols0) (oksk (by exact obOk_cell) oks0) (oksk (by exact obOk_cell) oks0) rfl (argOb rfl rfl rfl (argOk' rfl rfl argO0)) (fun o ho => by cases ho) rfl) ?_
        all_goals refine awpOps_cons (op_add rfl rfl rfl (by omega)) ?_
        all_goals refine awpOps_cons (op_mv rfl (Conv.of rfl) rfl) ?_
        all_goals refine awpOps_cons (op_callO fb87 (.cons rfl (Conv.of rfl) (.nil _)) (l71Pay_ct (nx (nx r2 1) 1) (g3.weak (by omega))) (olsk rfl ols0) (oksk (by exact obOk_cell) oks0) (oksk (by exact obOk_cell) oks0) rfl (argOb rfl rfl rfl argO0) (fun o ho => by cases ho) rfl) ?_
        all_goals refine awpOps_cons (op_build (.cons f60_0 rfl (Conv.of rfl) (.cons f60_1 rfl (Conv.of rfl) (.nil _))) z60 rfl pl60 rfl) ?_
        all_goals refine awpOps_cons (op_bsl sl34 z60 (.cons rfl (Conv.of rfl) (.nil _)) rfl (by decide) rfl) ?_
        all_goals refine awpOps_cons (op_fab f48_1 rfl rfl) ?_
        all_goals refine awpOps_cons (op_st ty34 rfl rfl (Conv.ol) rfl) ?_
        all_goals refine awpOps_nil ?_
        repeat first | refine nx_seq ?_ | refine nx_block ?_
        exact Le.mk rfl (tlb rfl rfl rfl (tlb rfl rfl rfl (tlb rfl rfl rfl tln))) (olk rfl (by exact obOk_cell) (olk rfl (by exact obOk_cell) (olk rfl (by exact obOk_cell) oln))) (hS_sub (a := [(0, .cell r)]) rfl)
      · have hk := of_decide_eq_false h2
        rw [show voteC c r2 = (c, nx r2 1) by unfold voteC; rw [if_pos hz, if_neg hk]]
        refine awp_skip ?_
        repeat first | refine nx_seq ?_ | refine nx_block ?_
        exact Le.mk rfl (tlb rfl rfl rfl (tlb rfl rfl rfl (tlb rfl rfl rfl tln))) (olk rfl (by exact obOk_cell) (olk rfl (by exact obOk_cell) (olk rfl (by exact obOk_cell) oln))) (hS_sub (a := [(0, .cell r)]) rfl)
    · have hz : ¬ c.length = 0 := by have h' : ¬ ((c.length : Nat) : Int) = 0 := of_decide_eq_false h; omega
      rw [show voteC c r2 = (c, r2) by unfold voteC; rw [if_neg hz]]
      refine awp_cond rfl (fun h2 => absurd h2 (by decide)) (fun h2 => ?_)
      refine awp_skip ?_
      repeat first | refine nx_seq ?_ | refine nx_block ?_
      exact Le.mk rfl (tlb rfl rfl rfl (tlb rfl rfl rfl (tlb rfl rfl rfl tln))) (olk rfl (by exact obOk_cell) (olk rfl (by exact obOk_cell) (olk rfl (by exact obOk_cell) oln))) (hS_sub (a := [(0, .cell r)]) rfl)
  · generalize voteC c r2 = cr at hf3 ⊢
    obtain ⟨c2, r3⟩ := cr
    simp only at hf3 ⊢
    have hf4 : Far 600047 (nx r3 1) := hf3.nx (by omega) (by omega)
    have d2 := pk_bd hf4 (by omega) 2
    have f2 := d2.2 (by omega)
    have g2 := gi_get (l := [0, 5]) d2.1 (by simp; omega)
    have e2 : nx (nx r3 1) 1 = nx r3 2 := nx_nx r3 1 1
    refine awp_seq_to (s' := mkSt 37 [(0, .box 0 (IsLens.whole Rd)), (2, .box 2 (IsLens.whole Vote)), (3, .box 3 (IsLens.whole Vote))] [(0, .cell (voteB (1 + pk r 4) r3).2), (2, .cell Vote.zero), (3, .cell (Vote.mk (voteB (1 + pk r 4) r3).1 c2))]) ?_ ?_
    · all_goals refine awp_seq (awp_region (id := 4) ?_)
      all_goals refine awpOps_cons (op_mv rfl (Conv.of rfl) rfl) ?_
      all_goals refine awpOps_cons (op_callO fb54 (.cons rfl (Conv.of rfl) (.cons rfl (Conv.of rfl) (.nil _))) (pick_ct r3 16 (by unfold Far at hf3; omega)) (olsk rfl ols0) (oksk (by exact obOk_cell) oks0) (oksk (by exact obOk_cell) oks0) rfl (argOb rfl rfl rfl (argOk' rfl rfl argO0)) (fun o ho => by cases ho) rfl) ?_
      all_goals refine awpOps_cons (op_eql rfl rfl rfl) ?_
      all_goals refine awpOps_nil ?_
      refine awp_cond rfl (fun h2 => ?_) (fun h2 => ?_)
      · have hk := of_decide_eq_true h2
        rw [show voteB (1 + pk r 4) r3 = (gi [0, 5] (pk (nx r3 1) 2), nx (nx r3 1) 1) by unfold voteB; rw [if_pos hk, e2]]
        all_goals refine awp_region (id := 5) ?_
        all_goals refine awpOps_cons (op_bsl sl61 z3 (.cons rfl (Conv.of rfl) (.cons rfl (Conv.of rfl) (.nil _))) rfl (by decide) rfl) ?_
        all_goals refine awpOps_cons (op_mv rfl (Conv.of rfl) rfl) ?_
        all_goals refine awpOps_cons (op_callO fb54 (.cons rfl (Conv.of rfl) (.cons rfl (Conv.of rfl) (.nil _))) (pick_ct (nx r3 1) 2 (by unfold Far at hf4; omega)) (olsk rfl ols0) (oksk (by exact obOk_cell) oks0) (oksk (by exact obOk_cell) oks0) rfl (argOb rfl rfl rfl (argOk' rfl rfl argO0)) (fun o ho => by cases ho) rfl) ?_
        all_goals refine awpOps_cons (op_ix sl61 rfl rfl rfl d2.1 g2) ?_
        all_goals refine awpOps_cons (op_ldr ty3 rfl rfl) ?_
        all_goals refine awpOps_cons (op_fab f48_0 rfl rfl) ?_
        all_goals refine awpOps_cons (op_st ty3 rfl rfl (Conv.of rfl) rfl) ?_
        all_goals refine awpOps_nil ?_
        repeat first | refine nx_seq ?_ | refine nx_block ?_
        exact Le.mk rfl (tlb rfl rfl rfl (tlb rfl rfl rfl (tlb rfl rfl rfl tln))) (olk rfl (by exact obOk_cell) (olk rfl (by exact obOk_cell) (olk rfl (by exact obOk_cell) oln))) (hS_sub (a := [(0, .cell r)]) rfl)
      · have hk := of_decide_eq_false h2
        rw [show voteB (1 + pk r 4) r3 = (1 + pk r 4, nx r3 1) by unfold voteB; rw [if_neg hk]]
        refine awp_skip ?_
        repeat first | refine nx_seq ?_ | refine nx_block ?_
        exact Le.mk rfl (tlb rfl rfl rfl (tlb rfl rfl rfl (tlb rfl rfl rfl tln))) (olk rfl (by exact obOk_cell) (olk rfl (by exact obOk_cell) (olk rfl (by exact obOk_cell) oln))) (hS_sub (a := [(0, .cell r)]) rfl)
    · all_goals refine awp_seq (awp_region (id := 6) ?_)
      all_goals refine awpOps_cons (op_ld ty48 rfl rfl rfl) ?_
      all_goals refine awpOps_cons (op_st ty48 rfl rfl (Conv.of rfl) rfl) ?_
      all_goals refine awpOps_nil ?_
      refine awp_ret ?_
      repeat first | refine rt_seq ?_ | refine rt_block ?_
      exact finO1 [(0, .cell (voteB (1 + pk r 4) r3).2)] (.rc ty48 rfl rfl) (fun o ho => by cases ho) (olk rfl obOk_cell oln) (hS_keys rfl) rfl
end Go.Proofs.YtmdhfalfppkpeaaGreat

/- The reference: draws of events in a plain world. -/
set_option linter.unusedVariables false
set_option linter.unusedSimpArgs false
namespace Go.Proofs.YtmdhfalfppkpeaaGreat
open Go Go.Wt
end Go.Proofs.YtmdhfalfppkpeaaGreat

/- The reference: drawn worlds, and what happens in them. -/
set_option linter.unusedVariables false
set_option linter.unusedSimpArgs false
namespace Go.Proofs.YtmdhfalfppkpeaaGreat
open Go Go.Wt
end Go.Proofs.YtmdhfalfppkpeaaGreat

/- The reference: a drawn world and an event; a drawn world and payments. -/
set_option linter.unusedVariables false
set_option linter.unusedSimpArgs false
namespace Go.Proofs.YtmdhfalfppkpeaaGreat
open Go Go.Wt
end Go.Proofs.YtmdhfalfppkpeaaGreat

/- The laws' own words: the same chains, votes, nodes, worlds. -/
set_option linter.unusedVariables false
set_option linter.unusedSimpArgs false
namespace Go.Proofs.YtmdhfalfppkpeaaGreat
open Go Go.Wt
theorem lwSame_ct (a b : List Itm) : CtP Tryz.prog 22 [.v a, .v b] (.v (decide (a = b))) := by
  refine Ct.intro Tryz.func22 rfl rfl ?_
  refine awp_bigL 0 rfl (fun hB => ?_)
  all_goals refine awp_seq (awp_region (id := 0) ?_)
  all_goals refine awpOps_cons (op_as rfl (Conv.of rfl) rfl) ?_
  all_goals refine awpOps_nil ?_
  all_goals refine awp_seq (awp_seq (awp_region (id := 1) ?_))
  all_goals refine awpOps_cons (op_mv rfl (Conv.of rfl) rfl) ?_
  all_goals refine awpOps_cons (op_len sl34 rfl rfl) ?_
  all_goals refine awpOps_cons (op_mv rfl (Conv.of rfl) rfl) ?_
  all_goals refine awpOps_cons (op_len sl34 rfl rfl) ?_
  all_goals refine awpOps_cons (op_neq rfl rfl rfl) ?_
  all_goals refine awpOps_nil ?_
  refine awp_cond rfl (fun h => ?_) (fun h => ?_)
  · all_goals refine awp_seq (awp_region (id := 2) ?_)
    all_goals refine awpOps_cons (op_as rfl (Conv.of rfl) rfl) ?_
    all_goals refine awpOps_nil ?_
    refine awp_ret ?_
    repeat first | refine rt_seq ?_ | refine rt_block ?_
    refine finP (.v rfl (Conv.of rfl)) rfl ?_
    show AV.v false = _
    have : a ≠ b := by intro e; subst e; simp at h
    simp [this]
  · refine awp_skip ?_
    have hlen : a.length = b.length := by simp at h; omega
    all_goals refine awp_seq (awp_seq (awp_region (id := 3) ?_))
    all_goals refine awpOps_cons (op_as rfl (Conv.of rfl) rfl) ?_
    all_goals refine awpOps_nil ?_
    refine awp_block ?_
    refine awp_loop' (fun n s => ∃ (k : Nat), ∃ (hn : n + k = a.length), ∃ (hall : decide (a = b) = decide (a.drop k = b.drop k)), s = mkSt 26 [(0, .v a), (1, .v b), (5, .v (k : Int))] []) (a.length) ⟨0, by omega, rfl, rfl⟩ (Le.mk rfl (tle rfl (rfl) rfl (tle rfl (rfl) rfl (tle rfl (rfl) rfl tln))) oln noS) ?_
    rintro n s ⟨k, hn, hall, rfl⟩
    all_goals refine awp_seq (awp_seq (awp_region (id := 4) ?_))
    all_goals refine awpOps_cons (op_mv rfl (Conv.of rfl) rfl) ?_
    all_goals refine awpOps_cons (op_mv rfl (Conv.of rfl) rfl) ?_
    all_goals refine awpOps_cons (op_len sl34 rfl rfl) ?_
    all_goals refine awpOps_cons (op_lss rfl rfl rfl) ?_
    all_goals refine awpOps_nil ?_
    refine awp_cond rfl (fun h => ?_) (fun h => ?_)
    · have hlt : k < a.length := by simpa using h
      have hx : a[k]? = some a[k] := List.getElem?_eq_getElem hlt
      have hy : b[k]? = some (b[k]'(by omega)) := List.getElem?_eq_getElem (by omega)
      have hs := same_drop hx hy
      refine awp_skip ?_
      refine awp_seq (awp_block ?_)
      all_goals refine awp_seq (dr_start (id := 6) ?_)
      all_goals refine dr_cons (op_mv rfl (Conv.of rfl) rfl) ?_
      all_goals refine dr_cons (op_mv rfl (Conv.of rfl) rfl) ?_
      all_goals refine dr_cons (op_ix sl34 rfl rfl rfl (by omega) hx) ?_
      all_goals refine dr_cons (op_ldr ty60 rfl rfl) ?_
      all_goals refine dr_cons (op_mv rfl (Conv.of rfl) rfl) ?_
      all_goals refine dr_cons (op_mv rfl (Conv.of rfl) rfl) ?_
      all_goals refine dr_cons (op_ix sl34 rfl rfl rfl (by omega) hy) ?_
      all_goals refine dr_cons (op_ldr ty60 rfl rfl) ?_
      all_goals refine dr_cons (op_nea weq60 rfl rfl rfl) ?_
      all_goals refine dr_nil mixed rfl ?_
      refine awp_cond rfl (fun h => ?_) (fun h => ?_)
      · all_goals refine awp_seq (awp_region (id := 7) ?_)
        all_goals refine awpOps_cons (op_as rfl (Conv.of rfl) rfl) ?_
        all_goals refine awpOps_nil ?_
        refine awp_ret ?_
        repeat first | refine rt_seq ?_ | refine rt_block ?_
        refine finP (.v rfl (Conv.of rfl)) rfl ?_
        show AV.v false = _
        have h' : decide (a[k] = b[k]) = false := by simpa using h
        rw [hall, hs, h', Bool.false_and]
      · refine awp_skip ?_
        all_goals refine awp_region (id := 5) ?_
        all_goals refine awpOps_cons (op_mv rfl (Conv.of rfl) rfl) ?_
        all_goals refine awpOps_cons (op_add rfl rfl rfl (by omega)) ?_
        all_goals refine awpOps_cons (op_as rfl (Conv.of rfl) rfl) ?_
        all_goals refine awpOps_nil ?_
        have h' : decide (a[k] = b[k]) = true := by simpa using h
        repeat first | refine nx_seq ?_ | refine nx_block ?_
        exact ⟨n - 1, _, by omega, ⟨k + 1, by omega, by rw [hall, hs, h', Bool.true_and], rfl⟩, Le.mk rfl (tle rfl (rfl) rfl (tle rfl (rfl) rfl (tle rfl (rfl) rfl tln))) oln noS⟩
    · refine awp_exit ?_
      repeat refine ex_seq ?_
      refine ex_block ?_
      have hk : a.length ≤ k := by simpa using h
      all_goals refine awp_seq (awp_region (id := 8) ?_)
      all_goals refine awpOps_cons (op_as rfl (Conv.of rfl) rfl) ?_
      all_goals refine awpOps_nil ?_
      refine awp_ret ?_
      repeat first | refine rt_seq ?_ | refine rt_block ?_
      refine finP (.v rfl (Conv.of rfl)) rfl ?_
      show AV.v true = _
      rw [hall, drop_end hk, drop_end (by omega : b.length ≤ k)]
      simp
theorem lwVote_ct (a b : Vote) : CtP Tryz.prog 41 [.v a, .v b] (.v (decide (a = b))) := by
  refine Ct.intro Tryz.func41 rfl rfl ?_
  all_goals refine awp_seq (awp_region (id := 0) ?_)
  all_goals refine awpOps_cons (op_box (o := 0) ty48 rfl (Conv.of rfl) rfl rfl) ?_
  all_goals refine awpOps_cons (op_box (o := 1) ty48 rfl (Conv.of rfl) rfl rfl) ?_
  all_goals refine awpOps_cons (op_as rfl (Conv.of rfl) rfl) ?_
  all_goals refine awpOps_nil ?_
  all_goals refine awp_seq (awp_region (id := 1) ?_)
  all_goals refine awpOps_cons (op_fab f48_0 rfl rfl) ?_
  all_goals refine awpOps_cons (op_ld ty3 rfl rfl rfl) ?_
  all_goals refine awpOps_cons (op_fab f48_0 rfl rfl) ?_
  all_goals refine awpOps_cons (op_ld ty3 rfl rfl rfl) ?_
  all_goals refine awpOps_cons (op_eql rfl rfl rfl) ?_
  all_goals refine awpOps_cons (op_mv rfl (Conv.of rfl) rfl) ?_
  all_goals refine g_split (t := 10) rfl (fun h => ?_) (fun h => ?_)
  all_goals first | refine awpOps_cons (g_off rfl rfl rfl rfl rfl) ?_ | refine awpOps_cons (g_on rfl rfl rfl (op_fab f48_1 rfl rfl)) ?_
  all_goals first | refine awpOps_cons (g_off rfl rfl rfl rfl rfl) ?_ | refine awpOps_cons (g_on rfl rfl rfl (op_ld ty34 rfl rfl rfl)) ?_
  all_goals first | refine awpOps_cons (g_off rfl rfl rfl rfl rfl) ?_ | refine awpOps_cons (g_on rfl rfl rfl (op_fab f48_1 rfl rfl)) ?_
  all_goals first | refine awpOps_cons (g_off rfl rfl rfl rfl rfl) ?_ | refine awpOps_cons (g_on rfl rfl rfl (op_ld ty34 rfl rfl rfl)) ?_
  all_goals first | refine awpOps_cons (g_off rfl rfl rfl rfl rfl) ?_ | refine awpOps_cons (g_on rfl rfl rfl (op_call fb22 (.cons rfl (Conv.of rfl) (.cons rfl (Conv.of rfl) (.nil _))) (lwSame_ct _ _) (argOk rfl rfl (argOk rfl rfl argOk0)) rfl rfl)) ?_
  all_goals refine awpOps_cons (op_pick rfl rfl rfl rfl) ?_
  all_goals refine awpOps_cons (op_as rfl (Conv.of rfl) rfl) ?_
  all_goals refine awpOps_nil ?_
  all_goals refine awp_ret ?_
  all_goals refine finP (.v rfl (Conv.of rfl)) rfl ?_
  all_goals (obtain ⟨a1, a2⟩ := a; obtain ⟨b1, b2⟩ := b; simp_all [FV.av])
theorem lwVotes_ct (a b : List Vote) : CtP Tryz.prog 49 [.v a, .v b] (.v (decide (a = b))) := by
  refine Ct.intro Tryz.func49 rfl rfl ?_
  refine awp_bigL 0 rfl (fun hB => ?_)
  all_goals refine awp_seq (awp_region (id := 0) ?_)
  all_goals refine awpOps_cons (op_as rfl (Conv.of rfl) rfl) ?_
  all_goals refine awpOps_nil ?_
  all_goals refine awp_seq (awp_seq (awp_region (id := 1) ?_))
  all_goals refine awpOps_cons (op_mv rfl (Conv.of rfl) rfl) ?_
  all_goals refine awpOps_cons (op_len sl27 rfl rfl) ?_
  all_goals refine awpOps_cons (op_mv rfl (Conv.of rfl) rfl) ?_
  all_goals refine awpOps_cons (op_len sl27 rfl rfl) ?_
  all_goals refine awpOps_cons (op_neq rfl rfl rfl) ?_
  all_goals refine awpOps_nil ?_
  refine awp_cond rfl (fun h => ?_) (fun h => ?_)
  · all_goals refine awp_seq (awp_region (id := 2) ?_)
    all_goals refine awpOps_cons (op_as rfl (Conv.of rfl) rfl) ?_
    all_goals refine awpOps_nil ?_
    refine awp_ret ?_
    repeat first | refine rt_seq ?_ | refine rt_block ?_
    refine finP (.v rfl (Conv.of rfl)) rfl ?_
    show AV.v false = _
    have : a ≠ b := by intro e; subst e; simp at h
    simp [this]
  · refine awp_skip ?_
    have hlen : a.length = b.length := by simp at h; omega
    all_goals refine awp_seq (awp_seq (awp_region (id := 3) ?_))
    all_goals refine awpOps_cons (op_as rfl (Conv.of rfl) rfl) ?_
    all_goals refine awpOps_nil ?_
    refine awp_block ?_
    refine awp_loop' (fun n s => ∃ (k : Nat), ∃ (hn : n + k = a.length), ∃ (hall : decide (a = b) = decide (a.drop k = b.drop k)), s = mkSt 27 [(0, .v a), (1, .v b), (5, .v (k : Int))] []) (a.length) ⟨0, by omega, rfl, rfl⟩ (Le.mk rfl (tle rfl (rfl) rfl (tle rfl (rfl) rfl (tle rfl (rfl) rfl tln))) oln noS) ?_
    rintro n s ⟨k, hn, hall, rfl⟩
    all_goals refine awp_seq (awp_seq (awp_region (id := 4) ?_))
    all_goals refine awpOps_cons (op_mv rfl (Conv.of rfl) rfl) ?_
    all_goals refine awpOps_cons (op_mv rfl (Conv.of rfl) rfl) ?_
    all_goals refine awpOps_cons (op_len sl27 rfl rfl) ?_
    all_goals refine awpOps_cons (op_lss rfl rfl rfl) ?_
    all_goals refine awpOps_nil ?_
    refine awp_cond rfl (fun h => ?_) (fun h => ?_)
    · have hlt : k < a.length := by simpa using h
      have hx : a[k]? = some a[k] := List.getElem?_eq_getElem hlt
      have hy : b[k]? = some (b[k]'(by omega)) := List.getElem?_eq_getElem (by omega)
      have hs := same_drop hx hy
      refine awp_skip ?_
      refine awp_seq (awp_block ?_)
      all_goals refine awp_seq (dr_start (id := 6) ?_)
      all_goals refine dr_cons (op_mv rfl (Conv.of rfl) rfl) ?_
      all_goals refine dr_cons (op_mv rfl (Conv.of rfl) rfl) ?_
      all_goals refine dr_cons (op_ix sl27 rfl rfl rfl (by omega) hx) ?_
      all_goals refine dr_cons (op_ldr ty48 rfl rfl) ?_
      all_goals refine dr_cons (op_mv rfl (Conv.of rfl) rfl) ?_
      all_goals refine dr_cons (op_mv rfl (Conv.of rfl) rfl) ?_
      all_goals refine dr_cons (op_ix sl27 rfl rfl rfl (by omega) hy) ?_
      all_goals refine dr_cons (op_ldr ty48 rfl rfl) ?_
      all_goals refine dr_cons (op_call fb41 (.cons rfl (Conv.of rfl) (.cons rfl (Conv.of rfl) (.nil _))) (lwVote_ct _ _) (argOk rfl rfl (argOk rfl rfl argOk0)) rfl rfl) ?_
      all_goals refine dr_cons (op_not rfl rfl) ?_
      all_goals refine dr_nil mixed rfl ?_
      refine awp_cond rfl (fun h => ?_) (fun h => ?_)
      · all_goals refine awp_seq (awp_region (id := 7) ?_)
        all_goals refine awpOps_cons (op_as rfl (Conv.of rfl) rfl) ?_
        all_goals refine awpOps_nil ?_
        refine awp_ret ?_
        repeat first | refine rt_seq ?_ | refine rt_block ?_
        refine finP (.v rfl (Conv.of rfl)) rfl ?_
        show AV.v false = _
        have h' : decide (a[k] = b[k]) = false := by simpa using h
        rw [hall, hs, h', Bool.false_and]
      · refine awp_skip ?_
        all_goals refine awp_region (id := 5) ?_
        all_goals refine awpOps_cons (op_mv rfl (Conv.of rfl) rfl) ?_
        all_goals refine awpOps_cons (op_add rfl rfl rfl (by omega)) ?_
        all_goals refine awpOps_cons (op_as rfl (Conv.of rfl) rfl) ?_
        all_goals refine awpOps_nil ?_
        have h' : decide (a[k] = b[k]) = true := by simpa using h
        repeat first | refine nx_seq ?_ | refine nx_block ?_
        exact ⟨n - 1, _, by omega, ⟨k + 1, by omega, by rw [hall, hs, h', Bool.true_and], rfl⟩, Le.mk rfl (tle rfl (rfl) rfl (tle rfl (rfl) rfl (tle rfl (rfl) rfl tln))) oln noS⟩
    · refine awp_exit ?_
      repeat refine ex_seq ?_
      refine ex_block ?_
      have hk : a.length ≤ k := by simpa using h
      all_goals refine awp_seq (awp_region (id := 8) ?_)
      all_goals refine awpOps_cons (op_as rfl (Conv.of rfl) rfl) ?_
      all_goals refine awpOps_nil ?_
      refine awp_ret ?_
      repeat first | refine rt_seq ?_ | refine rt_block ?_
      refine finP (.v rfl (Conv.of rfl)) rfl ?_
      show AV.v true = _
      rw [hall, drop_end hk, drop_end (by omega : b.length ≤ k)]
      simp
theorem lwNode_ct (a b : Nod) : CtP Tryz.prog 40 [.v a, .v b] (.v (decide (a = b))) := by
  refine Ct.intro Tryz.func40 rfl rfl ?_
  all_goals refine awp_seq (awp_region (id := 0) ?_)
  all_goals refine awpOps_cons (op_box (o := 0) ty41 rfl (Conv.of rfl) rfl rfl) ?_
  all_goals refine awpOps_cons (op_box (o := 1) ty41 rfl (Conv.of rfl) rfl rfl) ?_
  all_goals refine awpOps_cons (op_as rfl (Conv.of rfl) rfl) ?_
  all_goals refine awpOps_nil ?_
  all_goals refine awp_seq (awp_region (id := 1) ?_)
  all_goals refine awpOps_cons (op_fab f41_0 rfl rfl) ?_
  all_goals refine awpOps_cons (op_ld ty3 rfl rfl rfl) ?_
  all_goals refine awpOps_cons (op_fab f41_0 rfl rfl) ?_
  all_goals refine awpOps_cons (op_ld ty3 rfl rfl rfl) ?_
  all_goals refine awpOps_cons (op_eql rfl rfl rfl) ?_
  all_goals refine awpOps_cons (op_mv rfl (Conv.of rfl) rfl) ?_
  all_goals refine g_split (t := 10) rfl (fun h => ?_) (fun h => ?_)
  all_goals first | refine awpOps_cons (g_off rfl rfl rfl rfl rfl) ?_ | refine awpOps_cons (g_on rfl rfl rfl (op_fab f41_1 rfl rfl)) ?_
  all_goals first | refine awpOps_cons (g_off rfl rfl rfl rfl rfl) ?_ | refine awpOps_cons (g_on rfl rfl rfl (op_ld ty3 rfl rfl rfl)) ?_
  all_goals first | refine awpOps_cons (g_off rfl rfl rfl rfl rfl) ?_ | refine awpOps_cons (g_on rfl rfl rfl (op_fab f41_1 rfl rfl)) ?_
  all_goals first | refine awpOps_cons (g_off rfl rfl rfl rfl rfl) ?_ | refine awpOps_cons (g_on rfl rfl rfl (op_ld ty3 rfl rfl rfl)) ?_
  all_goals first | refine awpOps_cons (g_off rfl rfl rfl rfl rfl) ?_ | refine awpOps_cons (g_on rfl rfl rfl (op_eql rfl rfl rfl)) ?_
  all_goals refine awpOps_cons (op_pick rfl rfl rfl rfl) ?_
  all_goals refine awpOps_cons (op_mv rfl (Conv.of rfl) rfl) ?_
  all_goals first | refine g_lit (t := 17) (b := false) rfl ?_ | refine g_split (t := 17) rfl (fun h => ?_) (fun h => ?_)
  all_goals first | refine awpOps_cons (g_off rfl rfl rfl rfl rfl) ?_ | refine awpOps_cons (g_on rfl rfl rfl (op_fab f41_2 rfl rfl)) ?_
  all_goals first | refine awpOps_cons (g_off rfl rfl rfl rfl rfl) ?_ | refine awpOps_cons (g_on rfl rfl rfl (op_ld ty3 rfl rfl rfl)) ?_
  all_goals first | refine awpOps_cons (g_off rfl rfl rfl rfl rfl) ?_ | refine awpOps_cons (g_on rfl rfl rfl (op_fab f41_2 rfl rfl)) ?_
  all_goals first | refine awpOps_cons (g_off rfl rfl rfl rfl rfl) ?_ | refine awpOps_cons (g_on rfl rfl rfl (op_ld ty3 rfl rfl rfl)) ?_
  all_goals first | refine awpOps_cons (g_off rfl rfl rfl rfl rfl) ?_ | refine awpOps_cons (g_on rfl rfl rfl (op_eql rfl rfl rfl)) ?_
  all_goals refine awpOps_cons (op_pick rfl rfl rfl rfl) ?_
  all_goals refine awpOps_cons (op_mv rfl (Conv.of rfl) rfl) ?_
  all_goals first | refine g_lit (t := 24) (b := false) rfl ?_ | refine g_split (t := 24) rfl (fun h => ?_) (fun h => ?_)
  all_goals first | refine awpOps_cons (g_off rfl rfl rfl rfl rfl) ?_ | refine awpOps_cons (g_on rfl rfl rfl (op_fab f41_3 rfl rfl)) ?_
  all_goals first | refine awpOps_cons (g_off rfl rfl rfl rfl rfl) ?_ | refine awpOps_cons (g_on rfl rfl rfl (op_ld ty27 rfl rfl rfl)) ?_
  all_goals first | refine awpOps_cons (g_off rfl rfl rfl rfl rfl) ?_ | refine awpOps_cons (g_on rfl rfl rfl (op_fab f41_3 rfl rfl)) ?_
  all_goals first | refine awpOps_cons (g_off rfl rfl rfl rfl rfl) ?_ | refine awpOps_cons (g_on rfl rfl rfl (op_ld ty27 rfl rfl rfl)) ?_
  all_goals first | refine awpOps_cons (g_off rfl rfl rfl rfl rfl) ?_ | refine awpOps_cons (g_on rfl rfl rfl (op_call fb49 (.cons rfl (Conv.of rfl) (.cons rfl (Conv.of rfl) (.nil _))) (lwVotes_ct _ _) (argOk rfl rfl (argOk rfl rfl argOk0)) rfl rfl)) ?_
  all_goals refine awpOps_cons (op_pick rfl rfl rfl rfl) ?_
  all_goals refine awpOps_cons (op_as rfl (Conv.of rfl) rfl) ?_
  all_goals refine awpOps_nil ?_
  all_goals refine awp_ret ?_
  all_goals refine finP (.v rfl (Conv.of rfl)) rfl ?_
  all_goals (obtain ⟨a1, a2, a3, a4⟩ := a; obtain ⟨b1, b2, b3, b4⟩ := b; simp_all [FV.av])
end Go.Proofs.YtmdhfalfppkpeaaGreat

/- From a call's contract to the given row: slices of bytes that come in. -/
set_option linter.unusedVariables false
namespace Go.Wt
open Go Go.ChangeShapes Go.WideShapes Go.RowKit
/-- A slice of bytes that came in. -/
def IsRow (w : World) (a : Option Addr) (len cap : Nat) (zs : List Int) : Prop :=
  (a = none ∧ len = 0 ∧ cap = 0 ∧ zs = []) ∨
  ∃ x, a = some x ∧ len ≤ cap ∧ zs.length = cap ∧ (∀ i, i < zs.length → w.cell? (x.add i) = some (.int .u8 (zs.getD i 0))) ∧ ∀ n ∈ zs, (Lit.int .u8 n).wf = true
def G0 : Gh := ⟨fun _ _ => none, fun _ => none⟩
def codeOf (zs : List Int) (len : Nat) : List UInt8 := (zs.take len).map fun z => UInt8.ofNat z.toNat
theorem codeOf_rd {w : World} {a : Option Addr} {len cap : Nat} {zs : List Int} {ω : Owner} (h : IsRow w a len cap zs) (y : len ≤ 140737488351232) : RelV G0 w ω (.v (codeOf zs len)) (.slice a len cap) := by
  refine ⟨[.slice a len cap], ?_, rfl⟩
  rcases h with ⟨rfl, rfl, rfl, rfl⟩ | ⟨x, rfl, hl, hz, hc, hw⟩
  · exact ⟨none, 0, rfl, Nat.le_refl _, .inl rfl⟩
  · have hlen : (codeOf zs len).length = len := by simp [codeOf]; omega
    refine ⟨some x, cap, by rw [hlen], by rw [hlen]; exact hl, ?_⟩
    by_cases h0 : len = 0
    · left; exact List.eq_nil_of_length_eq_zero (by omega)
    · right
      obtain ⟨b, off, spot⟩ := x
      have h1 := hc 0 (by omega)
      have hsp : spot = none := by
        cases spot with
        | none => rfl
        | some s =>
          exfalso
          simp only [Addr.add, if_true, World.cell?] at h1
          split at h1 <;> simp at h1
      subst hsp
      refine ⟨b, off, rfl, by rw [hlen]; show len ≤ 4611686018427387904; omega, fun i u hu => ?_⟩
      have hi : i < len := by have := getElem?_lt hu; omega
      have hiz : i < zs.length := by omega
      have hu' : u = UInt8.ofNat (zs.getD i 0).toNat := by
        unfold codeOf at hu
        rw [List.getElem?_map, List.getElem?_take, if_pos hi, List.getElem?_eq_getElem hiz] at hu
        simp at hu
        rw [← hu, List.getD_eq_getElem?_getD, List.getElem?_eq_getElem hiz]; rfl
      have hwf := hw (zs.getD i 0) (by
        rw [List.getD_eq_getElem?_getD, List.getElem?_eq_getElem hiz]; exact List.getElem_mem hiz)
      have hn : ((u.toNat : Nat) : Int) = zs.getD i 0 := by
        have hb : 0 ≤ zs.getD i 0 ∧ zs.getD i 0 < 256 := by
          have hh : 0 ≤ zs.getD i 0 ∧ zs.getD i 0 ≤ 255 := by simpa [Lit.wf, IntKind.min, IntKind.max, IntKind.signed, IntKind.bits] using hwf
          omega
        rw [hu']
        have : (UInt8.ofNat (zs.getD i 0).toNat).toNat = (zs.getD i 0).toNat := by
          rw [UInt8.toNat_ofNat']; omega
        rw [this]; omega
      refine ⟨[.int .u8 u.toNat], rfl, fun j v hj => ?_⟩
      have hj0 : j = 0 := by
        have := getElem?_lt hj
        simp at this; exact this
      subst hj0
      simp at hj
      subst hj
      refine ⟨rfl, ?_⟩
      have h2 := hc i hiz
      have e : (⟨b, off, none⟩ : Addr).add i = ⟨b, off + i, none⟩ := add_lit b off i
      rw [e] at h2
      show cl w b (off + i * 1 + 0) = _
      rw [Nat.mul_one, Nat.add_zero]
      show w.cell? ⟨b, off + i, none⟩ = _
      rw [h2, hn]
theorem keep_below {S : Nat → Prop} {w w' : World} {G' : Gh} (h : Keep S G0 w G' w') : Below w.heap.size w w' :=
  ⟨h.os, h.tape, h.output, h.size, fun k hk => h.block k hk fun _ _ _ => .inl rfl⟩
theorem row_bool {P : Program} {f : FuncId} {args : List AV} {vs : List Value} {w : World} (h : CtP P f args (.v true)) (hr : RelAs G0 w 0 args vs) :
    Calls P f vs.toArray w fun e w' => e = .returned (.bool true) ∧ Below w.heap.size w w' :=
  (h G0 w vs hr fun o => rfl).mono fun e w' ⟨r, h', v, G', e1, ⟨e2, e3⟩, e4, e5, e6⟩ => by
    subst e2
    exact ⟨by rw [e1, RelV.bool e4], keep_below e6⟩
theorem row1 {P : Program} {f : FuncId} (h : ∀ code : List UInt8, CtP P f [.v code] (.v true)) {a : Option Addr} {len cap : Nat} {zs : List Int} (w : World) (hr : IsRow w a len cap zs) (y : len ≤ 140737488351232) :
    Calls P f #[.slice a len cap] w fun e w' => e = .returned (.bool true) ∧ Below w.heap.size w w' :=
  row_bool (vs := [_]) (h (codeOf zs len)) ⟨_, _, rfl, codeOf_rd hr y, rfl⟩
/-- What came in is read. -/
theorem rowOf {H : Type} {enc : TypeId × Value → H} {P : Program} {W : World} {base : Nat} {spare : Nat → Bool} {held : Bool} {t e : TypeId} {a : Option Addr} {len cap : Nat} {d : DataW H} {ps : List MemPlace} (hsp : ∀ b, spare b = true)
    (hu : P.underlying t = some (.slice e)) (he : P.underlying e = some (.int .u8)) (hc : P.cellsOf e = 1) (h : DataW.Trod enc P W base spare held t (.slice a len cap) d ps) : ∃ zs, IsRow W a len cap zs := by
  obtain ⟨fuel, hf⟩ := h
  rcases open_ints hu he hc hf with ⟨hcs, _⟩ | ⟨x, l, c, zs, hcs, _, hl, hm, hz, _, hcell, hwz⟩
  · simp [Value.cells] at hcs
    obtain ⟨rfl, rfl, rfl⟩ := hcs
    exact ⟨[], .inl ⟨rfl, rfl, rfl, rfl⟩⟩
  · simp [Value.cells] at hcs
    obtain ⟨rfl, rfl, rfl⟩ := hcs
    rw [if_pos (hsp _)] at hz
    exact ⟨zs, .inr ⟨_, rfl, hl, hz, hcell, hwz⟩⟩
theorem lenOf {H : Type} {enc : TypeId × Value → H} {P : Program} {W : World} {base : Nat} {spare : Nat → Bool} {held : Bool} {t e : TypeId} {a : Option Addr} {len cap : Nat} {d : DataW H} {ps : List MemPlace} {ts : List TypeId} {ds : List (DataW H)} {j : Nat}
    (hsz : (DataW.weightsEach P ts ds).all (· ≤ reachBytes) = true) (ht : ts[j]? = some t) (hd : ds[j]? = some d) (hu : P.underlying t = some (.slice e)) (he : P.underlying e = some (.int .u8)) (hc : P.cellsOf e = 1) (hB : P.bytesOf e = 1)
    (h : DataW.Trod enc P W base spare held t (.slice a len cap) d ps) : len ≤ 140737488351232 := by
  obtain ⟨fuel, hf⟩ := h
  rcases open_ints hu he hc hf with ⟨hcs, _⟩ | ⟨x, l, c, zs, hcs, _, hl, _, hz, hx, _, _⟩
  · simp [Value.cells] at hcs
    omega
  · simp [Value.cells] at hcs
    obtain ⟨rfl, rfl, rfl⟩ := hcs
    obtain ⟨hx, _⟩ := Prod.mk.inj hx
    subst hx
    have z := sized_slice hsz ht hd hu
    rw [hB] at z
    have hl2 : len ≤ zs.length := by
      rw [hz]
      split
      · exact hl
      · exact Nat.le_refl _
    simp only [lits, List.length_map, List.length_take, List.length_drop] at z
    have hr : reachBytes = 140737488351232 := rfl
    omega
end Go.Wt

/- Plays, as both have them. -/
set_option linter.unusedVariables false
set_option linter.unusedSimpArgs false
namespace Go.Proofs.YtmdhfalfppkpeaaGreat
open Go Go.Wt
/-- A play, with its answer. -/
def playR (bad : Int) (evs : List Evt) : Wrld × Bool := if within bad 0 4 && decide (evs.length ≤ 70) then (playF bad evs, true) else (Wrld.zero, false)
end Go.Proofs.YtmdhfalfppkpeaaGreat

/- The program's words for outsiders. -/
set_option linter.unusedVariables false
set_option linter.unusedSimpArgs false
namespace Go.Proofs.YtmdhfalfppkpeaaGreat
open Go Go.Wt
theorem gdOf {l : List Vote} (ho : votesOk l = true) (hl : l.length ≤ 1000) : Gd l := ⟨hl, votesOk_mem ho⟩
theorem treeLong_ct (l : List Vote) (ho : votesOk l = true) (hl : l.length ≤ 1000) : CtP Tryz.prog 45 [.v l] (.v ((tipOf l).length : Int)) := by
  have hg := gdOf ho hl
  refine Ct.intro Tryz.func45 rfl rfl ?_
  all_goals first | refine awp_seq (awp_region (id := 0) ?_) | refine awp_seq (awp_seq (awp_region (id := 0) ?_)) | refine awp_region (id := 0) ?_ | refine awp_seq (awp_seq (awp_seq (awp_region (id := 0) ?_)))
  all_goals refine awpOps_cons (op_as rfl (Conv.of rfl) rfl) ?_
  all_goals refine awpOps_nil ?_
  all_goals first | refine awp_seq (awp_region (id := 1) ?_) | refine awp_seq (awp_seq (awp_region (id := 1) ?_)) | refine awp_region (id := 1) ?_ | refine awp_seq (awp_seq (awp_seq (awp_region (id := 1) ?_)))
  all_goals first | refine awpOps_cons (op_mv rfl (Conv.of rfl) rfl) ?_ | refine awpOps_cons (op_mvl rfl rfl rfl rfl) ?_ | refine awpOps_cons (op_mvo rfl rfl rfl rfl) ?_
  all_goals refine awpOps_cons (op_call fb59 (.cons rfl (Conv.of rfl) (.nil _)) (votesOk_ct _) (argOk rfl rfl argOk0) rfl rfl) ?_
  all_goals refine awpOps_cons (op_not rfl rfl) ?_
  all_goals refine awpOps_nil ?_
  first | refine awp_seq (awp_cond rfl (fun h => absurd (not_t h) (by rw [ho]; decide)) (fun h => ?_)) | refine awp_seq (awp_seq (awp_cond rfl (fun h => absurd (not_t h) (by rw [ho]; decide)) (fun h => ?_))) | refine awp_cond rfl (fun h => absurd (not_t h) (by rw [ho]; decide)) (fun h => ?_) | refine awp_seq (awp_seq (awp_seq (awp_cond rfl (fun h => absurd (not_t h) (by rw [ho]; decide)) (fun h => ?_))))
  refine awp_skip ?_
  all_goals first | refine awp_seq (awp_region (id := 3) ?_) | refine awp_seq (awp_seq (awp_region (id := 3) ?_)) | refine awp_region (id := 3) ?_ | refine awp_seq (awp_seq (awp_seq (awp_region (id := 3) ?_)))
  all_goals first | refine awpOps_cons (op_mv rfl (Conv.of rfl) rfl) ?_ | refine awpOps_cons (op_mvl rfl rfl rfl rfl) ?_ | refine awpOps_cons (op_mvo rfl rfl rfl rfl) ?_
  all_goals refine awpOps_cons (op_call fb108 (.cons rfl (Conv.of rfl) (.nil _)) (tip_ct _ hg.l hg.v) (argOk rfl rfl argOk0) rfl rfl) ?_
  all_goals first | refine awpOps_cons (op_len sl34 rfl rfl) ?_ | refine awpOps_cons (op_lenA sl34 rfl rfl rfl) ?_
  all_goals first | refine awpOps_cons (op_as rfl (Conv.of rfl) rfl) ?_ | refine awpOps_cons (op_asl rfl rfl rfl rfl) ?_ | refine awpOps_cons (op_aso rfl rfl rfl rfl) ?_
  all_goals refine awpOps_nil ?_
  refine awp_ret ?_
  repeat first | refine rt_seq ?_ | refine rt_block ?_
  exact finP (.v rfl (Conv.of rfl)) rfl rfl
theorem treeFinal_ct (l : List Vote) (ho : votesOk l = true) (hl : l.length ≤ 1000) : CtP Tryz.prog 20 [.v l] (.v (CList.mk (finalOf l))) := by
  have hg := gdOf ho hl
  refine Ct.intro Tryz.func20 rfl rfl ?_
  all_goals first | refine awp_seq (awp_region (id := 0) ?_) | refine awp_seq (awp_seq (awp_region (id := 0) ?_)) | refine awp_region (id := 0) ?_ | refine awp_seq (awp_seq (awp_seq (awp_region (id := 0) ?_)))
  all_goals refine awpOps_cons (op_as rfl (Conv.of rfl) rfl) ?_
  all_goals refine awpOps_nil ?_
  all_goals first | refine awp_seq (awp_region (id := 1) ?_) | refine awp_seq (awp_seq (awp_region (id := 1) ?_)) | refine awp_region (id := 1) ?_ | refine awp_seq (awp_seq (awp_seq (awp_region (id := 1) ?_)))
  all_goals first | refine awpOps_cons (op_mv rfl (Conv.of rfl) rfl) ?_ | refine awpOps_cons (op_mvl rfl rfl rfl rfl) ?_ | refine awpOps_cons (op_mvo rfl rfl rfl rfl) ?_
  all_goals refine awpOps_cons (op_call fb59 (.cons rfl (Conv.of rfl) (.nil _)) (votesOk_ct _) (argOk rfl rfl argOk0) rfl rfl) ?_
  all_goals refine awpOps_cons (op_not rfl rfl) ?_
  all_goals refine awpOps_nil ?_
  first | refine awp_seq (awp_cond rfl (fun h => absurd (not_t h) (by rw [ho]; decide)) (fun h => ?_)) | refine awp_seq (awp_seq (awp_cond rfl (fun h => absurd (not_t h) (by rw [ho]; decide)) (fun h => ?_))) | refine awp_cond rfl (fun h => absurd (not_t h) (by rw [ho]; decide)) (fun h => ?_) | refine awp_seq (awp_seq (awp_seq (awp_cond rfl (fun h => absurd (not_t h) (by rw [ho]; decide)) (fun h => ?_))))
  refine awp_skip ?_
  all_goals first | refine awp_seq (awp_region (id := 3) ?_) | refine awp_seq (awp_seq (awp_region (id := 3) ?_)) | refine awp_region (id := 3) ?_ | refine awp_seq (awp_seq (awp_seq (awp_region (id := 3) ?_)))
  all_goals first | refine awpOps_cons (op_mv rfl (Conv.of rfl) rfl) ?_ | refine awpOps_cons (op_mvl rfl rfl rfl rfl) ?_ | refine awpOps_cons (op_mvo rfl rfl rfl rfl) ?_
  all_goals refine awpOps_cons (op_call fb66 (.cons rfl (Conv.of rfl) (.nil _)) (vfinal_ct _ hg.l hg.v hg.e) (argOk rfl rfl argOk0) rfl rfl) ?_
  all_goals first | refine awpOps_cons (op_as rfl (Conv.of rfl) rfl) ?_ | refine awpOps_cons (op_asl rfl rfl rfl rfl) ?_ | refine awpOps_cons (op_aso rfl rfl rfl rfl) ?_
  all_goals refine awpOps_nil ?_
  refine awp_ret ?_
  repeat first | refine rt_seq ?_ | refine rt_block ?_
  exact finP (.v rfl (Conv.of rfl)) rfl rfl
end Go.Proofs.YtmdhfalfppkpeaaGreat

/- Worlds in form; what happens in a world, for outsiders. -/
set_option linter.unusedVariables false
set_option linter.unusedSimpArgs false
namespace Go.Proofs.YtmdhfalfppkpeaaGreat
open Go Go.Wt
def worldDoR (w : Wrld) (e : Evt) : Wrld := if worldOk w then doF w e else Wrld.zero
end Go.Proofs.YtmdhfalfppkpeaaGreat

/- The reference: votes, nodes and worlds in form; copies. -/
set_option linter.unusedVariables false
set_option linter.unusedSimpArgs false
namespace Go.Proofs.YtmdhfalfppkpeaaGreat
open Go Go.Wt
theorem sVotesOk_ct (l : List Vote) : CtP Tryz.prog 81 [.v l] (.v (votesOk l)) := by
  refine Ct.intro Tryz.func81 rfl rfl ?_
  refine awp_bigL 0 rfl (fun hB => ?_)
  all_goals refine awp_seq (awp_region (id := 0) ?_)
  all_goals refine awpOps_cons (op_as rfl (Conv.of rfl) rfl) ?_
  all_goals refine awpOps_nil ?_
  all_goals refine awp_seq (awp_seq (awp_region (id := 1) ?_))
  all_goals refine awpOps_cons (op_as rfl (Conv.of rfl) rfl) ?_
  all_goals refine awpOps_nil ?_
  refine awp_block ?_
  refine awp_loop' (fun n_ s => ∃ (k : Nat), ∃ (hn : n_ + k = l.length), ∃ (hall : votesOk l = votesOkFrom (l.take k) (l.drop k)), s = mkSt 26 [(0, .v l), (3, .v (k : Int))] []) (l.length) ⟨0, by omega, rfl, rfl⟩ (Le.mk rfl (tle rfl (rfl) rfl (tle rfl (rfl) rfl tln)) oln noS) ?_
  rintro n_ s ⟨k, hn, hall, rfl⟩
  all_goals refine awp_seq (awp_seq (awp_region (id := 2) ?_))
  all_goals refine awpOps_cons (op_mv rfl (Conv.of rfl) rfl) ?_
  all_goals refine awpOps_cons (op_mv rfl (Conv.of rfl) rfl) ?_
  all_goals refine awpOps_cons (op_len sl27 rfl rfl) ?_
  all_goals refine awpOps_cons (op_lss rfl rfl rfl) ?_
  all_goals refine awpOps_nil ?_
  refine awp_cond rfl (fun h => ?_) (fun h => ?_)
  · have hlt : k < l.length := by simpa using h
    have hx : l[k]? = some l[k] := List.getElem?_eq_getElem hlt
    generalize l[k] = x at hx
    have hs := votesOk_drop hx
    refine awp_skip ?_
    refine awp_seq (awp_block ?_)
    refine awp_seq_to (s' := mkSt 26 [(0, .v l), (3, .v (k : Int)), (25, .v (!(voteOk x && !decide (x ∈ l.take k))))] []) ?_ ?_
    · all_goals refine dr_start (id := 4) ?_
      all_goals refine dr_cons (op_mv rfl (Conv.of rfl) rfl) ?_
      all_goals refine dr_cons (op_mv rfl (Conv.of rfl) rfl) ?_
      all_goals refine dr_cons (op_ix sl27 rfl rfl rfl (by omega) hx) ?_
      all_goals refine dr_cons (op_ldr ty48 rfl rfl) ?_
      all_goals refine dr_cons (op_call fb118 (.cons rfl (Conv.of rfl) (.nil _)) (l3Vote_ct _) (argOk rfl rfl argOk0) rfl rfl) ?_
      all_goals refine dr_cons (op_not rfl rfl) ?_
      all_goals refine dr_cons (op_mv rfl (Conv.of rfl) rfl) ?_
      all_goals refine dr_split (t := 16) rfl (fun h => ?_) (fun h => ?_)
      all_goals first | refine dr_cons (g_off rfl rfl rfl rfl rfl) ?_ | refine dr_cons (g_on rfl rfl rfl (op_mv rfl (Conv.of rfl) rfl)) ?_
      all_goals first | refine dr_cons (g_off rfl rfl rfl rfl rfl) ?_ | refine dr_cons (g_on rfl rfl rfl (op_mv rfl (Conv.of rfl) rfl)) ?_
      all_goals first | refine dr_cons (g_off rfl rfl rfl rfl rfl) ?_ | refine dr_cons (g_on rfl rfl rfl (op_slh sl27 rfl rfl rfl ⟨by omega, by omega⟩)) ?_
      all_goals first | refine dr_cons (g_off rfl rfl rfl rfl rfl) ?_ | refine dr_cons (g_on rfl rfl rfl (op_mv rfl (Conv.of rfl) rfl)) ?_
      all_goals first | refine dr_cons (g_off rfl rfl rfl rfl rfl) ?_ | refine dr_cons (g_on rfl rfl rfl (op_mv rfl (Conv.of rfl) rfl)) ?_
      all_goals first | refine dr_cons (g_off rfl rfl rfl rfl rfl) ?_ | refine dr_cons (g_on rfl rfl rfl (op_ix sl27 rfl rfl rfl (by omega) hx)) ?_
      all_goals first | refine dr_cons (g_off rfl rfl rfl rfl rfl) ?_ | refine dr_cons (g_on rfl rfl rfl (op_ldr ty48 rfl rfl)) ?_
      all_goals first | refine dr_cons (g_off rfl rfl rfl rfl rfl) ?_ | refine dr_cons (g_on rfl rfl rfl (op_call fb132 (.cons rfl (Conv.of rfl) (.cons rfl (Conv.of rfl) (.nil _))) (l3Has_ct _ _) (argOk rfl rfl (argOk rfl rfl argOk0)) rfl rfl)) ?_
      all_goals refine dr_cons (op_pick rfl rfl rfl rfl) ?_
      all_goals refine dr_nil mixed rfl ?_
      all_goals exact Le.mk rfl (tle rfl (rfl) rfl (tle rfl (rfl) rfl (tle rfl (by (clear hall hs; simp_all)) rfl tln))) oln noS
    refine awp_cond rfl (fun h => ?_) (fun h => ?_)
    · all_goals refine awp_seq (awp_region (id := 5) ?_)
      all_goals refine awpOps_cons (op_as rfl (Conv.of rfl) rfl) ?_
      all_goals refine awpOps_nil ?_
      refine awp_ret ?_
      repeat first | refine rt_seq ?_ | refine rt_block ?_
      refine finP (.v rfl (Conv.of rfl)) rfl ?_
      show AV.v false = _
      rw [hall, hs, not_t h, Bool.false_and]
    · refine awp_skip ?_
      all_goals refine awp_region (id := 3) ?_
      all_goals refine awpOps_cons (op_mv rfl (Conv.of rfl) rfl) ?_
      all_goals refine awpOps_cons (op_add rfl rfl rfl (by omega)) ?_
      all_goals refine awpOps_cons (op_as rfl (Conv.of rfl) rfl) ?_
      all_goals refine awpOps_nil ?_
      repeat first | refine nx_seq ?_ | refine nx_block ?_
      exact ⟨n_ - 1, _, by omega, ⟨k + 1, by omega, by rw [hall, hs, not_f h, Bool.true_and], rfl⟩, Le.mk rfl (tle rfl (rfl) rfl (tle rfl (rfl) rfl tln)) oln noS⟩
  · refine awp_exit ?_
    repeat refine ex_seq ?_
    refine ex_block ?_
    have hk : l.length ≤ k := by simpa using h
    all_goals refine awp_seq (awp_region (id := 6) ?_)
    all_goals refine awpOps_cons (op_as rfl (Conv.of rfl) rfl) ?_
    all_goals refine awpOps_nil ?_
    refine awp_ret ?_
    repeat first | refine rt_seq ?_ | refine rt_block ?_
    refine finP (.v rfl (Conv.of rfl)) rfl ?_
    show AV.v true = _
    rw [hall, drop_end hk]; rfl
set_option maxHeartbeats 4000000 in
theorem sNodeOk_ct (n : Nod) : CtP Tryz.prog 42 [.v n] (.v (nodeOk n)) := by
  refine Ct.intro Tryz.func42 rfl rfl ?_
  all_goals refine awp_seq (awp_region (id := 0) ?_)
  all_goals refine awpOps_cons (op_box (o := 0) ty41 rfl (Conv.of rfl) rfl rfl) ?_
  all_goals refine awpOps_cons (op_as rfl (Conv.of rfl) rfl) ?_
  all_goals refine awpOps_nil ?_
  refine awp_seq (awp_seq_to (s' := mkSt 66 [(1, .box 0 (IsLens.whole Nod)), (34, .v (!nodeOk0 n))] [(0, .cell n)]) ?_ ?_)
  · all_goals refine awp_region (id := 1) ?_
    all_goals refine awpOps_cons (op_fab f41_0 rfl rfl) ?_
    all_goals refine awpOps_cons (op_ld ty3 rfl rfl rfl) ?_
    all_goals refine awpOps_cons (op_call fb80 (.cons rfl (Conv.of rfl) (.cons rfl (Conv.of rfl) (.cons rfl (Conv.of rfl) (.nil _)))) (l6In_ct _ _ _) (argOk rfl rfl (argOk rfl rfl (argOk rfl rfl argOk0))) rfl rfl) ?_
    all_goals refine awpOps_cons (op_not rfl rfl) ?_
    all_goals refine awpOps_cons (op_mv rfl (Conv.of rfl) rfl) ?_
    all_goals refine g_split (t := 9) rfl (fun h => ?_) (fun h => ?_)
    all_goals first | refine awpOps_cons (g_off rfl rfl rfl rfl rfl) ?_ | refine awpOps_cons (g_on rfl rfl rfl (op_fab f41_1 rfl rfl)) ?_
    all_goals first | refine awpOps_cons (g_off rfl rfl rfl rfl rfl) ?_ | refine awpOps_cons (g_on rfl rfl rfl (op_ld ty3 rfl rfl rfl)) ?_
    all_goals first | refine awpOps_cons (g_off rfl rfl rfl rfl rfl) ?_ | refine awpOps_cons (g_on rfl rfl rfl (op_call fb80 (.cons rfl (Conv.of rfl) (.cons rfl (Conv.of rfl) (.cons rfl (Conv.of rfl) (.nil _)))) (l6In_ct _ _ _) (argOk rfl rfl (argOk rfl rfl (argOk rfl rfl argOk0))) rfl rfl)) ?_
    all_goals first | refine awpOps_cons (g_off rfl rfl rfl rfl rfl) ?_ | refine awpOps_cons (g_on rfl rfl rfl (op_not rfl rfl)) ?_
    all_goals refine awpOps_cons (op_pick rfl rfl rfl rfl) ?_
    all_goals refine awpOps_cons (op_mv rfl (Conv.of rfl) rfl) ?_
    all_goals first | refine g_lit (t := 15) (b := true) rfl ?_ | refine g_split (t := 15) rfl (fun h => ?_) (fun h => ?_)
    all_goals first | refine awpOps_cons (g_off rfl rfl rfl rfl rfl) ?_ | refine awpOps_cons (g_on rfl rfl rfl (op_fab f41_2 rfl rfl)) ?_
    all_goals first | refine awpOps_cons (g_off rfl rfl rfl rfl rfl) ?_ | refine awpOps_cons (g_on rfl rfl rfl (op_ld ty3 rfl rfl rfl)) ?_
    all_goals first | refine awpOps_cons (g_off rfl rfl rfl rfl rfl) ?_ | refine awpOps_cons (g_on rfl rfl rfl (op_fab f41_1 rfl rfl)) ?_
    all_goals first | refine awpOps_cons (g_off rfl rfl rfl rfl rfl) ?_ | refine awpOps_cons (g_on rfl rfl rfl (op_ld ty3 rfl rfl rfl)) ?_
    all_goals first | refine awpOps_cons (g_off rfl rfl rfl rfl rfl) ?_ | refine awpOps_cons (g_on rfl rfl rfl (op_call fb80 (.cons rfl (Conv.of rfl) (.cons rfl (Conv.of rfl) (.cons rfl (Conv.of rfl) (.nil _)))) (l6In_ct _ _ _) (argOk rfl rfl (argOk rfl rfl (argOk rfl rfl argOk0))) rfl rfl)) ?_
    all_goals first | refine awpOps_cons (g_off rfl rfl rfl rfl rfl) ?_ | refine awpOps_cons (g_on rfl rfl rfl (op_not rfl rfl)) ?_
    all_goals refine awpOps_cons (op_pick rfl rfl rfl rfl) ?_
    all_goals refine awpOps_cons (op_mv rfl (Conv.of rfl) rfl) ?_
    all_goals first | refine g_lit (t := 23) (b := true) rfl ?_ | refine g_split (t := 23) rfl (fun h => ?_) (fun h => ?_)
    all_goals first | refine awpOps_cons (g_off rfl rfl rfl rfl rfl) ?_ | refine awpOps_cons (g_on rfl rfl rfl (op_fab f41_3 rfl rfl)) ?_
    all_goals first | refine awpOps_cons (g_off rfl rfl rfl rfl rfl) ?_ | refine awpOps_cons (g_on rfl rfl rfl (op_ld ty27 rfl rfl rfl)) ?_
    all_goals first | refine awpOps_cons (g_off rfl rfl rfl rfl rfl) ?_ | refine awpOps_cons (g_on rfl rfl rfl (op_len sl27 rfl rfl)) ?_
    all_goals first | refine awpOps_cons (g_off rfl rfl rfl rfl rfl) ?_ | refine awpOps_cons (g_on rfl rfl rfl (op_gtr rfl rfl rfl)) ?_
    all_goals refine awpOps_cons (op_pick rfl rfl rfl rfl) ?_
    all_goals refine awpOps_cons (op_mv rfl (Conv.of rfl) rfl) ?_
    all_goals first | refine g_lit (t := 29) (b := true) rfl ?_ | refine g_split (t := 29) rfl (fun h => ?_) (fun h => ?_)
    all_goals first | refine awpOps_cons (g_off rfl rfl rfl rfl rfl) ?_ | refine awpOps_cons (g_on rfl rfl rfl (op_fab f41_3 rfl rfl)) ?_
    all_goals first | refine awpOps_cons (g_off rfl rfl rfl rfl rfl) ?_ | refine awpOps_cons (g_on rfl rfl rfl (op_ld ty27 rfl rfl rfl)) ?_
    all_goals first | refine awpOps_cons (g_off rfl rfl rfl rfl rfl) ?_ | refine awpOps_cons (g_on rfl rfl rfl (op_call fb81 (.cons rfl (Conv.of rfl) (.nil _)) (sVotesOk_ct _) (argOk rfl rfl argOk0) rfl rfl)) ?_
    all_goals first | refine awpOps_cons (g_off rfl rfl rfl rfl rfl) ?_ | refine awpOps_cons (g_on rfl rfl rfl (op_not rfl rfl)) ?_
    all_goals refine awpOps_cons (op_pick rfl rfl rfl rfl) ?_
    all_goals refine awpOps_nil ?_
    all_goals exact Le.mk rfl (tlb rfl rfl rfl (tle rfl (by (show AV.v _ = AV.v _; unfold nodeOk0; simp_all; try omega)) rfl tln)) (olk rfl (by exact obOk_cell) oln) noS
  refine awp_cond rfl (fun h => ?_) (fun h => ?_)
  · all_goals refine awp_seq (awp_region (id := 2) ?_)
    all_goals refine awpOps_cons (op_as rfl (Conv.of rfl) rfl) ?_
    all_goals refine awpOps_nil ?_
    refine awp_ret ?_
    repeat first | refine rt_seq ?_ | refine rt_block ?_
    refine finP (.v rfl (Conv.of rfl)) rfl ?_
    show AV.v false = _
    rw [nodeOk, not_t h]; rfl
  · have h0 := not_f h
    have h0' := h0
    simp only [nodeOk0, Bool.and_eq_true] at h0'
    have hvo := votesOk_mem h0'.2
    have hall0 : nodeOk n = !(n.seen.any (late n)) := by rw [nodeOk, h0, Bool.true_and]
    refine awp_skip ?_
    all_goals refine awp_seq (awp_seq (awp_region (id := 3) ?_))
    all_goals refine awpOps_cons (op_as rfl (Conv.of rfl) rfl) ?_
    all_goals refine awpOps_nil ?_
    refine awp_block ?_
    refine awp_loop' (fun n_ s => ∃ (k : Nat), ∃ (hn : n_ + k = n.seen.length), ∃ (hall : nodeOk n = !((n.seen.drop k).any (late n))), s = mkSt 66 [(1, .box 0 (IsLens.whole Nod)), (3, .v (k : Int))] [(0, .cell n)]) (n.seen.length) ⟨0, by omega, hall0, rfl⟩ (Le.mk rfl (tlb rfl rfl rfl (tle rfl (rfl) rfl tln)) (olk rfl (by exact obOk_cell) oln) noS) ?_
    rintro n_ s ⟨k, hn, hall, rfl⟩
    all_goals refine awp_seq (awp_seq (awp_region (id := 4) ?_))
    all_goals refine awpOps_cons (op_mv rfl (Conv.of rfl) rfl) ?_
    all_goals refine awpOps_cons (op_fab f41_3 rfl rfl) ?_
    all_goals refine awpOps_cons (op_ld ty27 rfl rfl rfl) ?_
    refine awpOps_bigL 37 rfl (fun hB => ?_)
    all_goals refine awpOps_cons (op_len sl27 rfl rfl) ?_
    all_goals refine awpOps_cons (op_lss rfl rfl rfl) ?_
    all_goals refine awpOps_nil ?_
    refine awp_cond rfl (fun h => ?_) (fun h => ?_)
    · have hlt : k < n.seen.length := by simpa using h
      have hx : n.seen[k]? = some n.seen[k] := List.getElem?_eq_getElem hlt
      generalize n.seen[k] = x at hx
      have hp := voteOk_pos (hvo x (List.mem_of_getElem? hx))
      have hcl := chainOk_len (voteOk_chain (hvo x (List.mem_of_getElem? hx)))
      have hd := drop_at hx
      have hy : x.chain[((x.chain.length : Int) - 1).toNat]? = some (x.chain[x.chain.length - 1]'(by omega)) := by
        rw [show ((x.chain.length : Int) - 1).toNat = x.chain.length - 1 by omega]; exact List.getElem?_eq_getElem (by omega)
      have hle : lastEp x.chain = (x.chain[x.chain.length - 1]'(by omega)).epoch := lastEp_get (List.getElem?_eq_getElem (by omega))
      generalize x.chain[x.chain.length - 1]'(by omega) = y at hy hle
      have hlate : late n x = (decide (x.by_ = n.id) && decide (n.voted < y.epoch)) := by unfold late; rw [hle]
      refine awp_skip ?_
      refine awp_seq (awp_block ?_)
      all_goals refine awp_seq (awp_region (id := 6) ?_)
      all_goals refine awpOps_cons (op_fab f41_3 rfl rfl) ?_
      all_goals refine awpOps_cons (op_ld ty27 rfl rfl rfl) ?_
      all_goals refine awpOps_cons (op_mv rfl (Conv.of rfl) rfl) ?_
      all_goals refine awpOps_cons (op_ix sl27 rfl rfl rfl (by omega) hx) ?_
      all_goals refine awpOps_cons (op_ldr ty48 rfl rfl) ?_
      all_goals refine awpOps_cons (op_alloc (o := 1) z48 rfl rfl) ?_
      all_goals refine awpOps_cons (op_st ty48 rfl rfl (Conv.of rfl) rfl) ?_
      all_goals refine awpOps_nil ?_
      refine awp_seq_to (s' := mkSt 66 [(1, .box 0 (IsLens.whole Nod)), (3, .v (k : Int)), (65, .v (late n x))] [(0, .cell n)]) ?_ ?_
      · all_goals refine dr_start (id := 7) ?_
        all_goals refine dr_cons (op_fab f48_0 rfl rfl) ?_
        all_goals refine dr_cons (op_ld ty3 rfl rfl rfl) ?_
        all_goals refine dr_cons (op_fab f41_0 rfl rfl) ?_
        all_goals refine dr_cons (op_ld ty3 rfl rfl rfl) ?_
        all_goals refine dr_cons (op_eql rfl rfl rfl) ?_
        all_goals refine dr_cons (op_mv rfl (Conv.of rfl) rfl) ?_
        all_goals refine dr_split (t := 52) rfl (fun h => ?_) (fun h => ?_)
        all_goals first | refine dr_cons (g_off rfl rfl rfl rfl rfl) ?_ | refine dr_cons (g_on rfl rfl rfl (op_fab f48_1 rfl rfl)) ?_
        all_goals first | refine dr_cons (g_off rfl rfl rfl rfl rfl) ?_ | refine dr_cons (g_on rfl rfl rfl (op_ld ty34 rfl rfl rfl)) ?_
        all_goals first | refine dr_cons (g_off rfl rfl rfl rfl rfl) ?_ | refine dr_cons (g_on rfl rfl rfl (op_fab f48_1 rfl rfl)) ?_
        all_goals first | refine dr_cons (g_off rfl rfl rfl rfl rfl) ?_ | refine dr_cons (g_on rfl rfl rfl (op_ld ty34 rfl rfl rfl)) ?_
        all_goals first | refine dr_cons (g_off rfl rfl rfl rfl rfl) ?_ | refine dr_cons (g_on rfl rfl rfl (op_len sl34 rfl rfl)) ?_
        all_goals first | refine dr_cons (g_off rfl rfl rfl rfl rfl) ?_ | refine dr_cons (g_on rfl rfl rfl (op_sub rfl rfl rfl (by omega))) ?_
        all_goals first | refine dr_cons (g_off rfl rfl rfl rfl rfl) ?_ | refine dr_cons (g_on rfl rfl rfl (op_ix sl34 rfl rfl rfl (by omega) hy)) ?_
        all_goals first | refine dr_cons (g_off rfl rfl rfl rfl rfl) ?_ | refine dr_cons (g_on rfl rfl rfl (op_far f60_0 rfl rfl)) ?_
        all_goals first | refine dr_cons (g_off rfl rfl rfl rfl rfl) ?_ | refine dr_cons (g_on rfl rfl rfl (op_ldr ty3 rfl rfl)) ?_
        all_goals first | refine dr_cons (g_off rfl rfl rfl rfl rfl) ?_ | refine dr_cons (g_on rfl rfl rfl (op_fab f41_2 rfl rfl)) ?_
        all_goals first | refine dr_cons (g_off rfl rfl rfl rfl rfl) ?_ | refine dr_cons (g_on rfl rfl rfl (op_ld ty3 rfl rfl rfl)) ?_
        all_goals first | refine dr_cons (g_off rfl rfl rfl rfl rfl) ?_ | refine dr_cons (g_on rfl rfl rfl (op_gtr rfl rfl rfl)) ?_
        all_goals refine dr_cons (op_pick rfl rfl rfl rfl) ?_
        all_goals refine dr_nil mixed rfl ?_
        all_goals exact Le.mk rfl (tlb rfl rfl rfl (tle rfl (rfl) rfl (tle rfl (by (show AV.v _ = AV.v _; rw [hlate]; clear hall hd hall0; simp_all)) rfl tln))) (olk rfl (by exact obOk_cell) oln) noS
      refine awp_cond rfl (fun h2 => ?_) (fun h2 => ?_)
      · all_goals refine awp_seq (awp_region (id := 8) ?_)
        all_goals refine awpOps_cons (op_as rfl (Conv.of rfl) rfl) ?_
        all_goals refine awpOps_nil ?_
        refine awp_ret ?_
        repeat first | refine rt_seq ?_ | refine rt_block ?_
        refine finP (.v rfl (Conv.of rfl)) rfl ?_
        show AV.v false = _
        rw [hall, hd, List.any_cons, h2]; rfl
      · refine awp_skip ?_
        all_goals refine awp_region (id := 5) ?_
        all_goals refine awpOps_cons (op_mv rfl (Conv.of rfl) rfl) ?_
        all_goals refine awpOps_cons (op_add rfl rfl rfl (by omega)) ?_
        all_goals refine awpOps_cons (op_as rfl (Conv.of rfl) rfl) ?_
        all_goals refine awpOps_nil ?_
        repeat first | refine nx_seq ?_ | refine nx_block ?_
        exact ⟨n_ - 1, _, by omega, ⟨k + 1, by omega, by rw [hall, hd, List.any_cons, h2, Bool.false_or], rfl⟩, Le.mk rfl (tlb rfl rfl rfl (tle rfl (rfl) rfl tln)) (olk rfl (by exact obOk_cell) oln) noS⟩
    · refine awp_exit ?_
      repeat refine ex_seq ?_
      refine ex_block ?_
      have hk : n.seen.length ≤ k := by simpa using h
      all_goals refine awp_seq (awp_region (id := 9) ?_)
      all_goals refine awpOps_cons (op_as rfl (Conv.of rfl) rfl) ?_
      all_goals refine awpOps_nil ?_
      refine awp_ret ?_
      repeat first | refine rt_seq ?_ | refine rt_block ?_
      refine finP (.v rfl (Conv.of rfl)) rfl ?_
      show AV.v true = _
      rw [hall, drop_end hk]; rfl
theorem l3Copy_ct (l : List Vote) (hl : l.length ≤ 1000000) (hv : ∀ v ∈ l, v.chain.length ≤ 1000000) : CtP Tryz.prog 128 [.v l] (.v (OList.mk l true)) := by
  refine Ct.intro Tryz.func128 rfl rfl ?_
  all_goals refine awp_seq (awp_region (id := 0) ?_)
  all_goals refine awpOps_cons (op_as rfl (Conv.of rfl) rfl) ?_
  all_goals refine awpOps_nil ?_
  all_goals refine awp_seq (awp_region (id := 1) ?_)
  all_goals refine awpOps_cons (op_bsl sl27 z48 (.nil _) rfl (by decide) rfl) ?_
  all_goals refine awpOps_cons (op_asl rfl rfl rfl rfl) ?_
  all_goals refine awpOps_nil ?_
  all_goals refine awp_seq (awp_seq (awp_region (id := 2) ?_))
  all_goals refine awpOps_cons (op_as rfl (Conv.of rfl) rfl) ?_
  all_goals refine awpOps_nil ?_
  refine awp_block ?_
  refine awp_loop' (fun n_ s => ∃ (k : Nat), ∃ (hn : n_ + k = l.length), s = mkSt 21 [(0, .v l), (3, .v (OList.mk (l.take k) true)), (4, .v (k : Int))] []) (l.length) ⟨0, by omega, rfl⟩ (Le.mk rfl (tle rfl (rfl) rfl (tle rfl (by rfl) rfl (tle rfl (rfl) rfl tln))) oln noS) ?_
  rintro n_ s ⟨k, hn, rfl⟩
  all_goals refine awp_seq (awp_seq (awp_region (id := 3) ?_))
  all_goals refine awpOps_cons (op_mv rfl (Conv.of rfl) rfl) ?_
  all_goals refine awpOps_cons (op_mv rfl (Conv.of rfl) rfl) ?_
  all_goals refine awpOps_cons (op_len sl27 rfl rfl) ?_
  all_goals refine awpOps_cons (op_lss rfl rfl rfl) ?_
  all_goals refine awpOps_nil ?_
  refine awp_cond rfl (fun h => ?_) (fun h => ?_)
  · have hlt : k < l.length := by simpa using h
    have hx : l[k]? = some l[k] := List.getElem?_eq_getElem hlt
    have hvk := hv _ (List.getElem_mem hlt)
    generalize l[k] = x at hx hvk
    refine awp_skip ?_
    refine awp_seq (awp_block ?_)
    all_goals refine awp_region (id := 5) ?_
    all_goals refine awpOps_cons (op_mvl rfl rfl rfl rfl) ?_
    all_goals refine awpOps_cons (op_mv rfl (Conv.of rfl) rfl) ?_
    all_goals refine awpOps_cons (op_mv rfl (Conv.of rfl) rfl) ?_
    all_goals refine awpOps_cons (op_ix sl27 rfl rfl rfl (by omega) hx) ?_
    all_goals refine awpOps_cons (op_ldr ty48 rfl rfl) ?_
    all_goals refine awpOps_cons (op_call fb102 (.cons rfl (Conv.of rfl) (.nil _)) (l3VoteCopy_ct x hvk) (argOk rfl rfl argOk0) rfl rfl) ?_
    all_goals refine awpOps_cons (op_bsl sl27 z48 (.cons rfl (Conv.of rfl) (.nil _)) rfl (by decide) rfl) ?_
    all_goals refine awpOps_cons (op_app sl27 z48 ul27 rfl rfl rfl (by (simp; omega)) (by (simp; omega)) rfl rfl) ?_
    all_goals refine awpOps_cons (op_asl rfl rfl rfl rfl) ?_
    all_goals refine awpOps_nil ?_
    all_goals refine awp_region (id := 4) ?_
    all_goals refine awpOps_cons (op_mv rfl (Conv.of rfl) rfl) ?_
    all_goals refine awpOps_cons (op_add rfl rfl rfl (by omega)) ?_
    all_goals refine awpOps_cons (op_as rfl (Conv.of rfl) rfl) ?_
    all_goals refine awpOps_nil ?_
    repeat first | refine nx_seq ?_ | refine nx_block ?_
    exact ⟨n_ - 1, _, by omega, ⟨k + 1, by omega, rfl⟩, Le.mk rfl (tle rfl (rfl) rfl (tle rfl (by (rw [take_at hx])) rfl (tle rfl (rfl) rfl tln))) oln noS⟩
  · refine awp_exit ?_
    repeat refine ex_seq ?_
    refine ex_block ?_
    have hk : l.length ≤ k := by simpa using h
    all_goals refine awp_seq (awp_region (id := 6) ?_)
    all_goals refine awpOps_cons (op_mvl rfl rfl rfl rfl) ?_
    all_goals refine awpOps_cons (op_asl rfl rfl rfl rfl) ?_
    all_goals refine awpOps_nil ?_
    refine awp_ret ?_
    repeat first | refine rt_seq ?_ | refine rt_block ?_
    exact finM rfl rfl (by rw [take_end hk])
theorem l12Copy_ct (n : Nod) (hl : n.seen.length ≤ 1000000) (hv : ∀ v ∈ n.seen, v.chain.length ≤ 1000000) : CtP Tryz.prog 104 [.v n] (.v (sN n)) := by
  refine Ct.intro Tryz.func104 rfl rfl ?_
  all_goals refine awp_seq (awp_region (id := 0) ?_)
  all_goals refine awpOps_cons (op_box (o := 0) ty41 rfl (Conv.of rfl) rfl rfl) ?_
  all_goals refine awpOps_cons (op_alloc (o := 1) z41_NodS rfl rfl) ?_
  all_goals refine awpOps_nil ?_
  refine awp_recell (o := 0) (tb := 1) (β := NodS) (y := fN n) rfl rfl (fun G w ω cs h => nod_fN h) ?_
  all_goals refine awp_seq (awp_region (id := 1) ?_)
  all_goals refine awpOps_cons (op_fab f41_3_NodS rfl rfl) ?_
  all_goals refine awpOps_cons (op_ldl ty27_OListVote rfl rfl rfl) ?_
  all_goals refine awpOps_cons (op_call fb128 (.cons rfl (Conv.of rfl) (.nil _)) (l3Copy_ct n.seen hl hv) (argOk rfl rfl argOk0) rfl rfl) ?_
  all_goals refine awpOps_cons (op_fab f41_3_NodS rfl rfl) ?_
  all_goals refine awpOps_cons (op_stm ty27_OListVote rfl rfl rfl) ?_
  all_goals refine awpOps_nil ?_
  all_goals refine awp_seq (awp_region (id := 2) ?_)
  all_goals refine awpOps_cons (op_ldm ty41_NodS rfl rfl rfl) ?_
  all_goals refine awpOps_cons (op_stm ty41_NodS rfl rfl rfl) ?_
  all_goals refine awpOps_nil ?_
  refine awp_ret ?_
  repeat first | refine rt_seq ?_ | refine rt_block ?_
  exact ⟨_, _, res1C (ol := []) ty41_NodS rfl rfl (fun o ho => absurd (show o ∈ ([] : List Nat) from ho) (by simp)) oln noS, rfl, rfl⟩
end Go.Proofs.YtmdhfalfppkpeaaGreat

/- The reference: a world anew. -/
set_option linter.unusedVariables false
set_option linter.unusedSimpArgs false
namespace Go.Proofs.YtmdhfalfppkpeaaGreat
open Go Go.Wt
end Go.Proofs.YtmdhfalfppkpeaaGreat

/- The reference: what happens in a world, for outsiders; both: a node hears, for outsiders. -/
set_option linter.unusedVariables false
set_option linter.unusedSimpArgs false
namespace Go.Proofs.YtmdhfalfppkpeaaGreat
open Go Go.Wt
def nodeHearR (n : Nod) (v : Vote) : Nod × Vote × Bool := if nodeOk n then hearF n v else (.zero, .zero, false)
theorem nodeHear_ct (n : Nod) (v : Vote) : CtP Tryz.prog 39 [.v n, .v v] (res3 (nodeHearR n v)) := by
  unfold nodeHearR
  cases h : nodeOk n with
  | false =>
    refine Ct.intro Tryz.func39 rfl rfl ?_
    all_goals refine awp_seq (awp_region (id := 0) ?_)
    all_goals refine awpOps_cons (op_box (o := 0) ty41 rfl (Conv.of rfl) rfl rfl) ?_
    all_goals refine awpOps_cons (op_box (o := 1) ty48 rfl (Conv.of rfl) rfl rfl) ?_
    all_goals refine awpOps_cons (op_alloc (o := 2) z41 rfl rfl) ?_
    all_goals refine awpOps_cons (op_alloc (o := 3) z48 rfl rfl) ?_
    all_goals refine awpOps_cons (op_as rfl (Conv.of rfl) rfl) ?_
    all_goals refine awpOps_nil ?_
    all_goals refine awp_seq (awp_seq (awp_region (id := 1) ?_))
    all_goals refine awpOps_cons (op_ld ty41 rfl rfl rfl) ?_
    all_goals refine awpOps_cons (op_call fb84 (.cons rfl (Conv.of rfl) (.nil _)) (nodeOk_ct _) (argOk rfl rfl argOk0) rfl rfl) ?_
    all_goals refine awpOps_cons (op_not rfl rfl) ?_
    all_goals refine awpOps_nil ?_
    refine awp_cond rfl (fun h2 => ?_) (fun h2 => absurd (not_f h2) (by rw [h]; decide))
    all_goals refine awp_seq (awp_region (id := 2) ?_)
    all_goals refine awpOps_cons (op_build (.nil _) z41 rfl pl41 rfl) ?_
    all_goals refine awpOps_cons (op_build (.nil _) z48 rfl pl48 rfl) ?_
    all_goals refine awpOps_cons (op_st ty41 rfl rfl (Conv.of rfl) rfl) ?_
    all_goals refine awpOps_cons (op_st ty48 rfl rfl (Conv.of rfl) rfl) ?_
    all_goals refine awpOps_cons (op_as rfl (Conv.of rfl) rfl) ?_
    all_goals refine awpOps_nil ?_
    refine awp_ret ?_
    repeat first | refine rt_seq ?_ | refine rt_block ?_
    exact ⟨_, _, resN (ol := []) (.cons (.rc ty41 rfl rfl) (.cons (.rc ty48 rfl rfl) (.cons (.v rfl (Conv.of rfl)) .nil))) rfl (fun o ho => absurd (show o ∈ ([] : List Nat) from ho) (by simp)) oln noS, rfl, rfl⟩
  | true =>
    have hs := nodeOk_seen h
    have hg := gdOf hs.1 (by omega)
    refine Ct.intro Tryz.func39 rfl rfl ?_
    all_goals refine awp_seq (awp_region (id := 0) ?_)
    all_goals refine awpOps_cons (op_box (o := 0) ty41 rfl (Conv.of rfl) rfl rfl) ?_
    all_goals refine awpOps_cons (op_box (o := 1) ty48 rfl (Conv.of rfl) rfl rfl) ?_
    all_goals refine awpOps_cons (op_alloc (o := 2) z41 rfl rfl) ?_
    all_goals refine awpOps_cons (op_alloc (o := 3) z48 rfl rfl) ?_
    all_goals refine awpOps_cons (op_as rfl (Conv.of rfl) rfl) ?_
    all_goals refine awpOps_nil ?_
    all_goals refine awp_seq (awp_seq (awp_region (id := 1) ?_))
    all_goals refine awpOps_cons (op_ld ty41 rfl rfl rfl) ?_
    all_goals refine awpOps_cons (op_call fb84 (.cons rfl (Conv.of rfl) (.nil _)) (nodeOk_ct _) (argOk rfl rfl argOk0) rfl rfl) ?_
    all_goals refine awpOps_cons (op_not rfl rfl) ?_
    all_goals refine awpOps_nil ?_
    refine awp_cond rfl (fun h2 => absurd (not_t h2) (by rw [h]; decide)) (fun h2 => ?_)
    refine awp_skip ?_
    all_goals refine awp_seq (dr_start (id := 3) ?_)
    all_goals refine dr_cons (op_ld ty41 rfl rfl rfl) ?_
    all_goals refine dr_cons (op_call fb105 (.cons rfl (Conv.of rfl) (.nil _)) (nodeCopied_ct n hg) (argOk rfl rfl argOk0) rfl rfl) ?_
    all_goals refine dr_cons (op_ld ty48 rfl rfl rfl) ?_
    all_goals refine dr_cons (op_call fb106 (.cons rfl (Conv.of rfl) (.cons rfl (Conv.of rfl) (.nil _))) (nhear_ct n v hg) (argOk rfl rfl (argOk rfl rfl argOk0)) rfl rfl) ?_
    all_goals refine dr_cons (op_ext rfl rfl rfl) ?_
    all_goals refine dr_cons (op_ext rfl rfl rfl) ?_
    all_goals refine dr_cons (op_ext rfl rfl rfl) ?_
    all_goals refine dr_cons (op_st ty41 rfl rfl (Conv.of rfl) rfl) ?_
    all_goals refine dr_cons (op_st ty48 rfl rfl (Conv.of rfl) rfl) ?_
    all_goals refine dr_cons (op_as rfl (Conv.of rfl) rfl) ?_
    all_goals refine dr_nil mixed rfl ?_
    refine awp_ret ?_
    repeat first | refine rt_seq ?_ | refine rt_block ?_
    exact ⟨_, _, resN (ol := []) (.cons (.rc ty41 rfl rfl) (.cons (.rc ty48 rfl rfl) (.cons (.v rfl (Conv.of rfl)) .nil))) rfl (fun o ho => absurd (show o ∈ ([] : List Nat) from ho) (by simp)) oln noS, rfl, rfl⟩
theorem res3_sN {x : Nod × Vote × Bool} {G : Gh} {w : Go.World} {u : Value} (h : RelV G w (.ret, []) (res3S x) u) : RelV G w (.ret, []) (res3 x) u := by
  obtain ⟨us, e0, u1, r1, e1, ⟨cs, h1, h2⟩, h3⟩ := h
  exact ⟨us, e0, u1, r1, e1, ⟨cs, rd_SN h1, h2⟩, h3⟩
theorem sNodeHear_ct (n : Nod) (v : Vote) (hv : v.chain.length ≤ 1000000) : CtP Tryz.prog 38 [.v n, .v v] (res3 (nodeHearR n v)) := by
  unfold nodeHearR
  cases h : nodeOk n with
  | false =>
    refine Ct.intro Tryz.func38 rfl rfl ?_
    all_goals refine awp_seq (awp_region (id := 0) ?_)
    all_goals refine awpOps_cons (op_box (o := 0) ty41 rfl (Conv.of rfl) rfl rfl) ?_
    all_goals refine awpOps_cons (op_box (o := 1) ty48 rfl (Conv.of rfl) rfl rfl) ?_
    all_goals refine awpOps_cons (op_alloc (o := 2) z41 rfl rfl) ?_
    all_goals refine awpOps_cons (op_alloc (o := 3) z48 rfl rfl) ?_
    all_goals refine awpOps_cons (op_as rfl (Conv.of rfl) rfl) ?_
    all_goals refine awpOps_nil ?_
    all_goals refine awp_seq (awp_seq (awp_region (id := 1) ?_))
    all_goals refine awpOps_cons (op_ld ty41 rfl rfl rfl) ?_
    all_goals refine awpOps_cons (op_call fb42 (.cons rfl (Conv.of rfl) (.nil _)) (sNodeOk_ct _) (argOk rfl rfl argOk0) rfl rfl) ?_
    all_goals refine awpOps_cons (op_not rfl rfl) ?_
    all_goals refine awpOps_nil ?_
    refine awp_cond rfl (fun h2 => ?_) (fun h2 => absurd (not_f h2) (by rw [h]; decide))
    all_goals refine awp_seq (awp_region (id := 2) ?_)
    all_goals refine awpOps_cons (op_build (.nil _) z41 rfl pl41 rfl) ?_
    all_goals refine awpOps_cons (op_build (.nil _) z48 rfl pl48 rfl) ?_
    all_goals refine awpOps_cons (op_st ty41 rfl rfl (Conv.of rfl) rfl) ?_
    all_goals refine awpOps_cons (op_st ty48 rfl rfl (Conv.of rfl) rfl) ?_
    all_goals refine awpOps_cons (op_as rfl (Conv.of rfl) rfl) ?_
    all_goals refine awpOps_nil ?_
    refine awp_ret ?_
    repeat first | refine rt_seq ?_ | refine rt_block ?_
    exact ⟨_, _, resN (ol := []) (.cons (.rc ty41 rfl rfl) (.cons (.rc ty48 rfl rfl) (.cons (.v rfl (Conv.of rfl)) .nil))) rfl (fun o ho => absurd (show o ∈ ([] : List Nat) from ho) (by simp)) oln noS, rfl, rfl⟩
  | true =>
    have hs := nodeOk_seen h
    have hg := gdOf hs.1 (by omega)
    have hh : CtP Tryz.prog 103 [.v (sN n), .v v] (res3 (hearF n v)) := Ct.res (l12Hear_w n v h hv) fun G w u hh => res3_sN hh
    refine Ct.intro Tryz.func38 rfl rfl ?_
    all_goals refine awp_seq (awp_region (id := 0) ?_)
    all_goals refine awpOps_cons (op_box (o := 0) ty41 rfl (Conv.of rfl) rfl rfl) ?_
    all_goals refine awpOps_cons (op_box (o := 1) ty48 rfl (Conv.of rfl) rfl rfl) ?_
    all_goals refine awpOps_cons (op_alloc (o := 2) z41 rfl rfl) ?_
    all_goals refine awpOps_cons (op_alloc (o := 3) z48 rfl rfl) ?_
    all_goals refine awpOps_cons (op_as rfl (Conv.of rfl) rfl) ?_
    all_goals refine awpOps_nil ?_
    all_goals refine awp_seq (awp_seq (awp_region (id := 1) ?_))
    all_goals refine awpOps_cons (op_ld ty41 rfl rfl rfl) ?_
    all_goals refine awpOps_cons (op_call fb42 (.cons rfl (Conv.of rfl) (.nil _)) (sNodeOk_ct _) (argOk rfl rfl argOk0) rfl rfl) ?_
    all_goals refine awpOps_cons (op_not rfl rfl) ?_
    all_goals refine awpOps_nil ?_
    refine awp_cond rfl (fun h2 => absurd (not_t h2) (by rw [h]; decide)) (fun h2 => ?_)
    refine awp_skip ?_
    all_goals refine awp_seq (dr_start (id := 3) ?_)
    all_goals refine dr_cons (op_ld ty41 rfl rfl rfl) ?_
    all_goals refine dr_cons (op_call fb104 (.cons rfl (Conv.of rfl) (.nil _)) (l12Copy_ct n hg.l' hg.v) (argOk rfl rfl argOk0) rfl rfl) ?_
    all_goals refine dr_cons (op_ld ty48 rfl rfl rfl) ?_
    all_goals refine dr_cons (op_callM (s := 13) (ol := []) (ol' := []) (pre := []) fb103 (.nil _) rfl (.cons rfl (Conv.of rfl) (.nil _)) (hh) ols0 oks0 oks0 rfl argO0 (argOk' rfl rfl argO0) (fun o ho => absurd (show o ∈ ([] : List Nat) from ho) (by simp)) (fun o ho => absurd (show o ∈ ([] : List Nat) from ho) (by simp)) rfl) ?_
    all_goals refine dr_cons (op_ext rfl rfl rfl) ?_
    all_goals refine dr_cons (op_ext rfl rfl rfl) ?_
    all_goals refine dr_cons (op_ext rfl rfl rfl) ?_
    all_goals refine dr_cons (op_st ty41 rfl rfl (Conv.of rfl) rfl) ?_
    all_goals refine dr_cons (op_st ty48 rfl rfl (Conv.of rfl) rfl) ?_
    all_goals refine dr_cons (op_as rfl (Conv.of rfl) rfl) ?_
    all_goals refine dr_nil mixed rfl ?_
    refine awp_ret ?_
    repeat first | refine rt_seq ?_ | refine rt_block ?_
    exact ⟨_, _, resN (ol := []) (.cons (.rc ty41 rfl rfl) (.cons (.rc ty48 rfl rfl) (.cons (.v rfl (Conv.of rfl)) .nil))) rfl (fun o ho => absurd (show o ∈ ([] : List Nat) from ho) (by simp)) oln noS, rfl, rfl⟩
theorem nodeEnter_ct (n : Nod) (e : Int) (h : nodeOk n = true) : CtP Tryz.prog 44 [.v n, .v e] (.v (enterF n e)) := by
  have hs := nodeOk_seen h
  have hg := gdOf hs.1 (by omega)
  have hep := (nodeOk_iff.1 h).1.2.1
  refine Ct.intro Tryz.func44 rfl rfl ?_
  all_goals refine awp_seq (awp_region (id := 0) ?_)
  all_goals refine awpOps_cons (op_box (o := 0) ty41 rfl (Conv.of rfl) rfl rfl) ?_
  all_goals refine awpOps_cons (op_alloc (o := 1) z41 rfl rfl) ?_
  all_goals refine awpOps_nil ?_
  all_goals refine awp_seq (awp_seq (awp_region (id := 1) ?_))
  all_goals refine awpOps_cons (op_ld ty41 rfl rfl rfl) ?_
  all_goals refine awpOps_cons (op_call fb84 (.cons rfl (Conv.of rfl) (.nil _)) (nodeOk_ct _) (argOk rfl rfl argOk0) rfl rfl) ?_
  all_goals refine awpOps_cons (op_not rfl rfl) ?_
  all_goals refine awpOps_nil ?_
  refine awp_cond rfl (fun h2 => absurd (not_t h2) (by rw [h]; decide)) (fun h2 => ?_)
  refine awp_skip ?_
  all_goals refine awp_seq (awp_region (id := 3) ?_)
  all_goals refine awpOps_cons (op_ld ty41 rfl rfl rfl) ?_
  all_goals refine awpOps_cons (op_call fb105 (.cons rfl (Conv.of rfl) (.nil _)) (nodeCopied_ct n hg) (argOk rfl rfl argOk0) rfl rfl) ?_
  all_goals refine awpOps_cons (op_mv rfl (Conv.of rfl) rfl) ?_
  all_goals refine awpOps_cons (op_call fb107 (.cons rfl (Conv.of rfl) (.cons rfl (Conv.of rfl) (.nil _))) (enter_ct n e hep) (argOk rfl rfl (argOk rfl rfl argOk0)) rfl rfl) ?_
  all_goals refine awpOps_cons (op_st ty41 rfl rfl (Conv.of rfl) rfl) ?_
  all_goals refine awpOps_nil ?_
  refine awp_ret ?_
  repeat first | refine rt_seq ?_ | refine rt_block ?_
  exact finP (.rc ty41 rfl rfl) rfl rfl
end Go.Proofs.YtmdhfalfppkpeaaGreat

/- What happens in a world in form. -/
set_option linter.unusedVariables false
set_option linter.unusedSimpArgs false
namespace Go.Wt
/-- What a node does when it hears `v`, or proposes. -/
structure NS (n : Nod) (v : Option Vote) (x : Nod × Vote × Bool) : Prop where
  id : x.1.id = n.id
  ep : x.1.epoch = n.epoch
  seen : ∃ N, x.1.seen = n.seen ++ N ∧ ∀ u ∈ N, some u = v ∨ (x.2.2 = true ∧ u = x.2.1)
  by_ : x.2.2 = true → x.2.1.by_ = n.id
theorem NS.refl (n : Nod) (v : Option Vote) : NS n v (n, .zero, false) := ⟨rfl, rfl, ⟨[], by simp, fun u hu => by cases hu⟩, fun h => by cases h⟩
theorem NS.keep {n m : Nod} {v : Option Vote} (hid : m.id = n.id) (hep : m.epoch = n.epoch) (hs : ∃ N, m.seen = n.seen ++ N ∧ ∀ u ∈ N, some u = v) : NS n v (m, .zero, false) := by
  obtain ⟨N, h1, h2⟩ := hs
  exact ⟨hid, hep, ⟨N, h1, fun u hu => .inl (h2 u hu)⟩, fun h => by cases h⟩
theorem NS.vote {n m : Nod} {v : Option Vote} {c : List Itm} (hid : m.id = n.id) (hep : m.epoch = n.epoch) (hs : ∃ N, m.seen = n.seen ++ N ∧ ∀ u ∈ N, some u = v) : NS n v (voteF m c) := by
  unfold voteF
  split
  · exact NS.keep hid hep hs
  · obtain ⟨N, h1, h2⟩ := hs
    refine ⟨hid, hep, ⟨N ++ [⟨m.id, c⟩], by simp [h1], fun u hu => ?_⟩, fun _ => hid⟩
    rcases List.mem_append.1 hu with hu | hu
    · exact .inl (h2 u hu)
    · simp at hu; exact .inr ⟨rfl, hu⟩
theorem NS.try {n m : Nod} {v : Option Vote} (hid : m.id = n.id) (hep : m.epoch = n.epoch) (hs : ∃ N, m.seen = n.seen ++ N ∧ ∀ u ∈ N, some u = v) : ∀ l : List Vote, NS n v (tryF m l)
  | [] => NS.keep hid hep hs
  | u :: r => by
    simp only [tryF]
    split
    · exact NS.vote hid hep hs
    · exact NS.try hid hep hs r
theorem seeF_app (n : Nod) (v : Vote) : ∃ N, (seeF n v).seen = n.seen ++ N ∧ ∀ u ∈ N, some u = some v := by
  unfold seeF
  split
  · exact ⟨[], by simp, fun u hu => by cases hu⟩
  · exact ⟨[v], rfl, fun u hu => by simp at hu; rw [hu]⟩
theorem NS.hear (n : Nod) (v : Vote) : NS n (some v) (hearF n v) := by
  have h := seeF_app n v
  have h2 := seeF_epoch n v
  unfold hearF
  split
  · split
    · exact NS.try h2.2.1 h2.1 h _
    · exact NS.keep h2.2.1 h2.1 h
  · exact NS.refl n _
theorem NS.propose (n : Nod) (p : Pay) : NS n none (proposeF n p) := by
  unfold proposeF
  split
  · exact NS.vote rfl rfl ⟨[], by simp, fun u hu => by cases hu⟩
  · exact NS.refl n _
theorem putF_nodes (w : Wrld) (k : Nat) (x : Nod × Vote × Bool) : (putF w k x).nodes = w.nodes.set k x.1 := by
  unfold putF
  split
  · unfold sendF; split <;> rfl
  · rfl
/-- What is sent: at most one more. -/
def Sn (w w' : Wrld) (p : Vote → Prop) : Prop := w'.log = w.log ∨ ∃ v, w'.log = w.log ++ [v] ∧ p v
theorem sendF_sn (w : Wrld) (v : Vote) {p : Vote → Prop} (h : p v) : Sn w (sendF w v) p := by
  unfold sendF
  split
  · exact .inr ⟨v, rfl, h⟩
  · exact .inl rfl
theorem sendF_mem {w : Wrld} {v : Vote} (h : w.log.length < 80) : v ∈ (sendF w v).log := by
  unfold sendF
  split
  · simp
  · rename_i hh
    simp only [Bool.and_eq_true, Bool.not_eq_true', decide_eq_false_iff_not, decide_eq_true_eq, not_and] at hh
    by_cases hm : v ∈ w.log
    · exact hm
    · exact absurd h (hh hm)
theorem putF_sn {w : Wrld} {k : Nat} {x : Nod × Vote × Bool} {p : Vote → Prop} (h : x.2.2 = true → p x.2.1) : Sn w (putF w k x) p := by
  unfold putF
  split
  · rename_i hh
    exact sendF_sn { w with nodes := w.nodes.set k x.1 } x.2.1 (h hh)
  · exact .inl rfl
theorem putF_has {w : Wrld} {k : Nat} {x : Nod × Vote × Bool} (h : x.2.2 = true) (hl : w.log.length < 80) : x.2.1 ∈ (putF w k x).log := by
  unfold putF
  rw [if_pos h]
  exact sendF_mem hl
theorem Sn.sub {w w' : Wrld} {p : Vote → Prop} (h : Sn w w' p) : ∀ v ∈ w.log, v ∈ w'.log := fun v hv => by
  rcases h with e | ⟨u, e, _⟩
  · rw [e]; exact hv
  · rw [e]; exact List.mem_append_left _ hv
/-- What a world becomes. -/
structure Stp (w w' : Wrld) : Prop where
  ok : WOk w'
  bad : w'.bad = w.bad
  ep : w.epoch ≤ w'.epoch ∧ w'.epoch ≤ w.epoch + 1
  log : Sn w w' (fun _ => True)
  seen : ∀ (i : Nat) (n : Nod), w.nodes[i]? = some n → ∃ n' N, w'.nodes[i]? = some n' ∧ n'.seen = n.seen ++ N
theorem Stp.refl {w : Wrld} (h : WOk w) : Stp w w := ⟨h, rfl, by omega, .inl rfl, fun i n hn => ⟨n, [], hn, by simp⟩⟩
theorem Stp.put {w : Wrld} {k : Nat} {n : Nod} {v : Option Vote} {x : Nod × Vote × Bool} (h : WOk w) (hn : w.nodes[k]? = some n) (hx : NS n v x) (hv : ∀ u, v = some u → u ∈ w.log) (hl : w.log.length < 80)
    (h1 : nodeOk x.1 = true) (h2 : x.2.2 = true → voteOk x.2.1 = true) : Stp w (putF w k x) := by
  have hno := putF_nodes w k x
  have hsn : Sn w (putF w k x) (fun _ => True) := putF_sn fun _ => trivial
  have heb := putF_eb w k x
  have hlt := (List.getElem?_eq_some_iff.1 hn).1
  refine ⟨⟨putF_ok h.fx h1 h2, by rw [heb.2]; exact h.bad, fun i m hm => ?_⟩, heb.2, by rw [heb.1]; omega, hsn, fun i m hm => ?_⟩
  · rw [hno] at hm
    rw [heb.1, heb.2]
    by_cases hik : k = i
    · subst hik
      rw [List.getElem?_set_self hlt] at hm
      injection hm with hm
      subst hm
      obtain ⟨a, b, c⟩ := h.node k n hn
      refine ⟨by rw [hx.id]; exact a, by rw [hx.ep]; exact b, fun u hu => ?_⟩
      obtain ⟨N, e, hN⟩ := hx.seen
      rw [e] at hu
      rcases List.mem_append.1 hu with hu | hu
      · rcases c u hu with q | q
        · exact .inl q
        · exact .inr (hsn.sub u q)
      · rcases hN u hu with q | ⟨q1, q2⟩
        · exact .inr (hsn.sub u (hv u q.symm))
        · rw [q2]; exact .inr (putF_has q1 hl)
    · rw [List.getElem?_set_ne hik] at hm
      obtain ⟨a, b, c⟩ := h.node i m hm
      exact ⟨a, b, fun u hu => (c u hu).imp id (hsn.sub u)⟩
  · rw [hno]
    by_cases hik : k = i
    · subst hik
      rw [hn] at hm
      injection hm with hm
      subst hm
      obtain ⟨N, e, _⟩ := hx.seen
      exact ⟨x.1, N, by rw [List.getElem?_set_self hlt], e⟩
    · exact ⟨m, [], by rw [List.getElem?_set_ne hik]; exact hm, by simp⟩
theorem Stp.tick {w : Wrld} (h : WOk w) : Stp w (tickF w) := by
  have hep := h.fx.ep
  refine ⟨⟨tickF_ok h.fx, h.bad, fun i m hm => ?_⟩, rfl, ?_, .inl rfl, fun i n hn => ?_⟩
  · have hm' : (w.nodes.map fun n => enterF n (min (w.epoch + 1) 30))[i]? = some m := hm
    rw [List.getElem?_map] at hm'
    cases hn : w.nodes[i]? with
    | none => rw [hn] at hm'; cases hm'
    | some n =>
      rw [hn] at hm'
      simp at hm'
      obtain ⟨a, b, c⟩ := h.node i n hn
      subst hm'
      refine ⟨?_, ?_, fun u hu => ?_⟩
      · unfold enterF; split <;> exact a
      · show (enterF n (min (w.epoch + 1) 30)).epoch = min (w.epoch + 1) 30
        unfold enterF
        split
        · rfl
        · rename_i hh
          simp only [within, Bool.and_eq_true, decide_eq_true_eq, not_and] at hh
          rw [b] at hh ⊢
          omega
      · have : (enterF n (min (w.epoch + 1) 30)).seen = n.seen := by unfold enterF; split <;> rfl
        rw [this] at hu
        exact c u hu
  · show w.epoch ≤ min (w.epoch + 1) 30 ∧ min (w.epoch + 1) 30 ≤ w.epoch + 1
    omega
  · refine ⟨enterF n (min (w.epoch + 1) 30), [], ?_, ?_⟩
    · show (w.nodes.map fun n => enterF n (min (w.epoch + 1) 30))[i]? = _
      rw [List.getElem?_map, hn]; rfl
    · unfold enterF; split <;> simp
theorem Stp.send {w : Wrld} {v : Vote} (h : WOk w) (hv : voteOk v = true) : Stp w (sendF w v) := by
  have hsn : Sn w (sendF w v) (fun _ => True) := sendF_sn w v trivial
  have e : (sendF w v).epoch = w.epoch ∧ (sendF w v).bad = w.bad ∧ (sendF w v).nodes = w.nodes := by unfold sendF; split <;> exact ⟨rfl, rfl, rfl⟩
  refine ⟨⟨sendF_ok h.fx hv, by rw [e.2.1]; exact h.bad, fun i m hm => ?_⟩, e.2.1, by rw [e.1]; omega, hsn, fun i n hn => ⟨n, [], by rw [e.2.2]; exact hn, by simp⟩⟩
  rw [e.2.2] at hm
  rw [e.1, e.2.1]
  obtain ⟨a, b, c⟩ := h.node i m hm
  exact ⟨a, b, fun u hu => (c u hu).imp id (hsn.sub u)⟩
theorem Stp.bring {w : Wrld} (h : WOk w) (a id : Int) : Stp w (wbringF w a id) := by
  unfold wbringF
  split
  · rename_i hh
    simp only [honestB, Bool.and_eq_true, Bool.not_eq_true', decide_eq_false_iff_not, decide_eq_true_eq] at hh
    split
    · rename_i n v hn hv
      have := hearF_ok v (h.fx.nodes n (List.mem_of_getElem? hn))
      exact Stp.put h hn (NS.hear n v) (fun u hu => by injection hu with hu; rw [← hu]; exact List.mem_of_getElem? hv) hh.1.2 this.1 this.2
    · exact Stp.refl h
  · exact Stp.refl h
theorem Stp.propose {w : Wrld} (h : WOk w) (id : Int) (p : Pay) : Stp w (wproposeF w id p) := by
  unfold wproposeF
  split
  · rename_i hh
    simp only [honestB, Bool.and_eq_true, Bool.not_eq_true', decide_eq_false_iff_not, decide_eq_true_eq] at hh
    split
    · rename_i n hn
      have := proposeF_ok p (h.fx.nodes n (List.mem_of_getElem? hn))
      exact Stp.put h hn (NS.propose n p) (fun u hu => by cases hu) hh.1.2 this.1 this.2
    · exact Stp.refl h
  · exact Stp.refl h
theorem Stp.do {w : Wrld} (h : WOk w) (e : Evt) : Stp w (doF w e) := by
  unfold doF
  split
  · exact Stp.tick h
  · split
    · exact Stp.propose h _ _
    · split
      · exact Stp.bring h _ _
      · split
        · split
          · rename_i hh
            simp only [Bool.and_eq_true] at hh
            exact Stp.send h hh.1
          · exact Stp.refl h
        · exact Stp.refl h
end Go.Wt

/- Parking of a world's room. -/
set_option linter.unusedVariables false
set_option linter.unusedSimpArgs false
namespace Go.Wt
open Go
variable {P : Program} {S : Nat → Prop} {ops : Array Oper} {st : St}
/-- Between the parts of a region: a variable is seen in another way. -/
theorem recell {o tb : Nat} {α β : Type} [Enc α] [Enc β] {x : α} {y : β} (ho : st.ob o = .cell x) (htb : st.tm tb = some (.box o (IsLens.whole α)))
    (hc : ∀ (G : Gh) (w : Go.World) (ω : Owner) (cs : List Value), Enc.rd G w ω x cs → Enc.rd G w ω y cs) :
    ∀ G w a, RelSt G w a st → ∃ (_ : Unit) (G' : Gh), RelSt G' w a (st.upd [(tb, some (.box o (IsLens.whole β)))] [(o, .cell y)]) ∧ Keep S G w G' w := fun G w a hr => by
  have hob := hr.objs o
  rw [ho] at hob
  obtain ⟨b', cs, e, k1, k2, k3, k4⟩ := hob
  refine ⟨(), G, ⟨hr.defers, hr.size, fun q => ?_, fun j => ?_⟩, Keep.refl _ _ _⟩
  · show RelT _ _ _ (orr (lk [(tb, _)] q) (st.tm q)) (a.tmps.getD q undef)
    simp only [lk]
    by_cases eb : q = tb
    · subst eb
      rw [if_pos rfl]
      have := hr.tmps q
      rw [htb] at this
      exact this
    · rw [if_neg eb]
      exact hr.tmps q
  · show RelO _ _ j (orr (lk [(o, _)] j) (st.ob j))
    simp only [lk]
    by_cases ek : j = o
    · subst ek
      rw [if_pos rfl]
      exact ⟨b', cs, e, k1, k2, hc _ _ _ _ k3, k4⟩
    · rw [if_neg ek]
      exact hr.objs j
/-! ### Quiet epochs in worlds in form -/
theorem Stp.wok {w w' : Wrld} (h : Stp w w') : WOk w' := h.ok
end Go.Wt

/- Drawn nodes. -/
set_option linter.unusedVariables false
set_option linter.unusedSimpArgs false
namespace Go.Wt
open Go
theorem rd_FN {G : Gh} {w : Go.World} {ω : Owner} {n : Nod} {cs : List Value} (h : Enc.rd G w ω (fN n) cs) : Enc.rd G w ω n cs := by
  obtain ⟨c1, c2, rfl, r1, ⟨c3, c4, rfl, r3, ⟨c5, c6, rfl, r5, ⟨a, cap, h1, h2, h3, h4⟩⟩⟩⟩ := h
  exact ⟨c1, _, rfl, r1, c3, _, rfl, r3, c5, _, rfl, r5, ⟨a, cap, h1, h2, h3⟩⟩
theorem arr_nF {G : Gh} {w : Go.World} {o : Nat} {ns : List Nod} {k : Nat} {n : Nod} (hx : ns[k]? = some n) (h : RelO G w o (.arr ((ns.map sN).set k (fN n)))) : RelO G w o (.arr ns) := by
  obtain ⟨b, cap, cs, e, h1, h2, h3, h4, h5, h6⟩ := h
  refine ⟨b, cap, cs, e, by simpa using h1, h2, by simpa using h3, h4, fun i x hi => ?_, h6⟩
  by_cases ek : i = k
  · subst ek
    rw [hx] at hi
    injection hi with hi
    subst hi
    obtain ⟨c, c1, c2⟩ := h5 i (fN n) (by rw [List.getElem?_set_self (by rw [List.length_map]; exact getElem?_lt hx)])
    exact ⟨c, rd_FN c1, c2⟩
  · obtain ⟨c, c1, c2⟩ := h5 i (sN x) (by rw [List.getElem?_set_ne (Ne.symm ek), List.getElem?_map, hi]; rfl)
    exact ⟨c, rd_SN c1, c2⟩
/-- A node of a drawn one's size. -/
structure Ln (n : Nod) : Prop where
  ep : 0 ≤ n.epoch ∧ n.epoch ≤ 30
  sl : n.seen.length ≤ 101
  sc : ∀ v ∈ n.seen, v.chain.length ≤ 30
theorem FineX.ln {w : Wrld} (h : FineX w) {n : Nod} (hn : n ∈ w.nodes) : Ln n :=
  ⟨h.fine.nep n hn, by have := h.lw.sl n hn; omega, (h.lw.sl n hn).2⟩
/-- Which node is drawn. -/
def idF (bad q : Int) : Int := if q = bad then q.tmod 4 + 1 else q
theorem idF_bd {bad q : Int} (h : 1 ≤ q ∧ q ≤ 4) : 1 ≤ idF bad q ∧ idF bad q ≤ 4 := by
  unfold idF
  split
  · have : q = 1 ∨ q = 2 ∨ q = 3 ∨ q = 4 := by omega
    rcases this with e | e | e | e <;> rw [e] <;> decide
  · exact h
end Go.Wt

/- Quiet epochs. -/
set_option linter.unusedVariables false
set_option linter.unusedSimpArgs false
namespace Go.Proofs.YtmdhfalfppkpeaaGreat
open Go Go.Wt
end Go.Proofs.YtmdhfalfppkpeaaGreat
