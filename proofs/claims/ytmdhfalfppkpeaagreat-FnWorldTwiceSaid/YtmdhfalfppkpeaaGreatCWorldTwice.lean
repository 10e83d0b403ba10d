/- The law FnWorldTwice returns true at every input, and leaves its arguments as they were. No condition. -/
import Derived.Test.YtmdhfalfppkpeaaGreatM5
import Derived.Test.YtmdhfalfppkpeaaGreatRows
import Derived.WalkKit
import Derived.ProofKit
import Derived.OpenShut
import Derived.ShutString
import Derived.ChangeOld
import Derived.Below
import Derived.SizedLaws
import Derived.KernelRfl
/- A law: a vote that comes twice comes once. -/
set_option linter.unusedVariables false
set_option linter.unusedSimpArgs false
namespace Go.Proofs.YtmdhfalfppkpeaaGreat
open Go Go.Wt
set_option maxHeartbeats 4000000 in
theorem FnWorldTwice_ct (code more : List UInt8) : CtP Tryz.prog 12 [.v code, .v more] (.v true) := by
  refine Ct.intro Tryz.func12 rfl rfl ?_
  refine awp_bigL 1 rfl (fun hmore => ?_)
  all_goals refine awp_seq (awp_region (id := 0) ?_)
  all_goals refine awpOps_cons (op_as rfl (Conv.of rfl) rfl) ?_
  all_goals refine awpOps_nil ?_
  refine awp_seq (awp_seq_to (s' := mkSt 68 [(0, .v code), (1, .v more), (17, .v (decide ((code.length : Int) > 1048576) || decide ((more.length : Int) > 1048576)))] []) ?_ ?_)
  · all_goals refine awp_region (id := 1) ?_
    all_goals refine awpOps_cons (op_mv rfl (Conv.of rfl) rfl) ?_
    all_goals refine awpOps_cons (op_len sl22 rfl rfl) ?_
    all_goals refine awpOps_cons (op_gtr rfl rfl rfl) ?_
    all_goals refine awpOps_cons (op_mv rfl (Conv.of rfl) rfl) ?_
    all_goals refine g_split (t := 13) rfl (fun h => ?_) (fun h => ?_)
    all_goals first | refine awpOps_cons (g_off rfl rfl rfl rfl rfl) ?_ | refine awpOps_cons (g_on rfl rfl rfl (op_mv rfl (Conv.of rfl) rfl)) ?_
    all_goals first | refine awpOps_cons (g_off rfl rfl rfl rfl rfl) ?_ | refine awpOps_cons (g_on rfl rfl rfl (op_len sl22 rfl rfl)) ?_
    all_goals first | refine awpOps_cons (g_off rfl rfl rfl rfl rfl) ?_ | refine awpOps_cons (g_on rfl rfl rfl (op_gtr rfl rfl rfl)) ?_
    all_goals refine awpOps_cons (op_pick rfl rfl rfl rfl) ?_
    all_goals refine awpOps_nil ?_
    all_goals exact Le.mk rfl (tle rfl (rfl) rfl (tle rfl (rfl) rfl (tle rfl (by (simp_all; try omega)) rfl tln))) oln noS
  refine awp_cond rfl (fun h => ?_) (fun h => ?_)
  · all_goals refine awp_seq (awp_region (id := 2) ?_)
    all_goals refine awpOps_cons (op_as rfl (Conv.of rfl) rfl) ?_
    all_goals refine awpOps_nil ?_
    refine awp_ret ?_
    repeat first | refine rt_seq ?_ | refine rt_block ?_
    exact finP (.v rfl (Conv.of rfl)) rfl rfl
  refine awp_skip ?_
  all_goals refine awp_seq (awp_region (id := 3) ?_)
  all_goals refine awpOps_cons (op_mv rfl (Conv.of rfl) rfl) ?_
  refine awpOps_callE (ι := Wrld × Evt) [] (fun i => .tup [.v i.1, .v i.2]) (fun _ => []) (fun _ => True) rfl fb46 (.cons rfl (Conv.of rfl) (.nil _)) (drawDo_ct code) (fun r h' ⟨w, e, e1, e2⟩ => ⟨(w, e), e1, e2, trivial⟩) ols0 oks0 (argOk' rfl rfl argO0) rfl (fun _ => rfl) (fun _ => oks0) (fun _ o ho => by cases ho) ?_
  rintro ⟨w, e⟩ -
  simp only
  all_goals refine awpOps_cons (op_mv rfl (Conv.of rfl) rfl) ?_
  all_goals refine awpOps_cons (op_ext rfl rfl rfl) ?_
  all_goals refine awpOps_cons (op_ext rfl rfl rfl) ?_
  all_goals refine awpOps_cons (op_alloc (o := 0) z29 rfl rfl) ?_
  all_goals refine awpOps_cons (op_alloc (o := 1) z78 rfl rfl) ?_
  all_goals refine awpOps_cons (op_st ty29 rfl rfl (Conv.of rfl) rfl) ?_
  all_goals refine awpOps_cons (op_st ty78 rfl rfl (Conv.of rfl) rfl) ?_
  all_goals refine awpOps_nil ?_
  all_goals refine awp_seq (awp_region (id := 4) ?_)
  all_goals refine awpOps_cons (op_ld ty29 rfl rfl rfl) ?_
  all_goals refine awpOps_cons (op_ld ty78 rfl rfl rfl) ?_
  all_goals refine awpOps_cons (op_call fb47 (.cons rfl (Conv.of rfl) (.cons rfl (Conv.of rfl) (.nil _))) (worldDo_ct w e) (argOk rfl rfl (argOk rfl rfl argOk0)) rfl rfl) ?_
  all_goals refine awpOps_cons (op_alloc (o := 2) z29 rfl rfl) ?_
  all_goals refine awpOps_cons (op_st ty29 rfl rfl (Conv.of rfl) rfl) ?_
  all_goals refine awpOps_nil ?_
  refine awp_seq (awp_seq_to (s' := mkSt 68 [(1, .v more), (5, .box 0 (IsLens.whole Wrld)), (6, .box 1 (IsLens.whole Evt)), (7, .box 2 (IsLens.whole Wrld)), (42, .v (!worldOk w || decide ((w.log.length : Int) = 0)))] [(0, .cell w), (1, .cell e), (2, .cell (worldDoR w e))]) ?_ ?_)
  · all_goals refine dr_start (id := 5) ?_
    all_goals refine dr_cons (op_ld ty29 rfl rfl rfl) ?_
    all_goals refine dr_cons (op_ld ty29 rfl rfl rfl) ?_
    all_goals refine dr_cons (op_ld ty78 rfl rfl rfl) ?_
    all_goals refine dr_cons (op_call fb48 (.cons rfl (Conv.of rfl) (.cons rfl (Conv.of rfl) (.nil _))) (sWorldDo_ct w e) (argOk rfl rfl (argOk rfl rfl argOk0)) rfl rfl) ?_
    all_goals refine dr_cons (op_call fb18 (.cons rfl (Conv.of rfl) (.cons rfl (Conv.of rfl) (.nil _))) (lwWorld_ct _ _) (argOk rfl rfl (argOk rfl rfl argOk0)) rfl rfl) ?_
    all_goals refine dr_cons (op_not rfl rfl) ?_
    all_goals refine dr_cons (op_mv rfl (Conv.of rfl) rfl) ?_
    all_goals refine dr_split (t := 32) rfl (fun h => ?_) (fun h => ?_)
    all_goals first | refine dr_cons (g_off rfl rfl rfl rfl rfl) ?_ | refine dr_cons (g_on rfl rfl rfl (op_ld ty29 rfl rfl rfl)) ?_
    all_goals first | refine dr_cons (g_off rfl rfl rfl rfl rfl) ?_ | refine dr_cons (g_on rfl rfl rfl (op_call fb29 (.cons rfl (Conv.of rfl) (.nil _)) (sWorldOk_ct _) (argOk rfl rfl argOk0) rfl rfl)) ?_
    all_goals first | refine dr_cons (g_off rfl rfl rfl rfl rfl) ?_ | refine dr_cons (g_on rfl rfl rfl (op_not rfl rfl)) ?_
    all_goals refine dr_cons (op_pick rfl rfl rfl rfl) ?_
    all_goals refine dr_cons (op_mv rfl (Conv.of rfl) rfl) ?_
    all_goals first | refine dr_lit (t := 37) (b := true) rfl ?_ | refine dr_split (t := 37) rfl (fun h => ?_) (fun h => ?_)
    all_goals first | refine dr_cons (g_off rfl rfl rfl rfl rfl) ?_ | refine dr_cons (g_on rfl rfl rfl (op_fab f29_2 rfl rfl)) ?_
    all_goals first | refine dr_cons (g_off rfl rfl rfl rfl rfl) ?_ | refine dr_cons (g_on rfl rfl rfl (op_ld ty27 rfl rfl rfl)) ?_
    all_goals first | refine dr_cons (g_off rfl rfl rfl rfl rfl) ?_ | refine dr_cons (g_on rfl rfl rfl (op_len sl27 rfl rfl)) ?_
    all_goals first | refine dr_cons (g_off rfl rfl rfl rfl rfl) ?_ | refine dr_cons (g_on rfl rfl rfl (op_eql rfl rfl rfl)) ?_
    all_goals refine dr_cons (op_pick rfl rfl rfl rfl) ?_
    all_goals refine dr_nil mixed rfl ?_
    all_goals exact Le.mk rfl (tle rfl (rfl) rfl (tlb rfl rfl rfl (tlb rfl rfl rfl (tlb rfl rfl rfl (tle rfl (by (have e1 : ∀ b : Bool, Enc.dis b = b := fun _ => rfl; have e2 : ∀ y : Wrld, Enc.dis y = y := fun _ => rfl; have e3 : ∀ y : Evt, Enc.dis y = y := fun _ => rfl; show AV.v _ = AV.v _; simp_all; try (rw [Bool.eq_iff_iff]; simp))) rfl tln))))) (olk rfl (by exact obOk_cell) (olk rfl (by exact obOk_cell) (olk rfl (by exact obOk_cell) oln))) noS
  refine awp_cond rfl (fun h => ?_) (fun h => ?_)
  · all_goals refine awp_seq (dr_start (id := 6) ?_)
    all_goals refine dr_cons (op_ld ty29 rfl rfl rfl) ?_
    all_goals refine dr_cons (op_ld ty29 rfl rfl rfl) ?_
    all_goals refine dr_cons (op_ld ty78 rfl rfl rfl) ?_
    all_goals refine dr_cons (op_call fb48 (.cons rfl (Conv.of rfl) (.cons rfl (Conv.of rfl) (.nil _))) (sWorldDo_ct w e) (argOk rfl rfl (argOk rfl rfl argOk0)) rfl rfl) ?_
    all_goals refine dr_cons (op_call fb18 (.cons rfl (Conv.of rfl) (.cons rfl (Conv.of rfl) (.nil _))) (lwWorld_ct _ _) (argOk rfl rfl (argOk rfl rfl argOk0)) rfl rfl) ?_
    all_goals refine dr_cons (op_as rfl (Conv.of rfl) rfl) ?_
    all_goals refine dr_nil mixed rfl ?_
    all_goals refine awp_ret ?_
    all_goals refine finP (.v rfl (Conv.of rfl)) rfl ?_
    all_goals simp_all [FV.av]
  have h' : worldOk w = true ∧ ¬ ((w.log.length : Int) = 0) := by simpa using h
  obtain ⟨hwo, hne⟩ := h'
  have hW := worldOk_iff.1 hwo
  have hdo : ∀ e2 : Evt, worldDoR w e2 = doF w e2 := fun e2 => by unfold worldDoR; rw [if_pos hwo]
  refine awp_skip ?_
  have h4 := hW.fx.four
  have hll := hW.fx.ll
  have hep := hW.fx.ep
  have m1 := tmod_bd (show (0 : Int) ≤ (more.length : Int) by omega) (show (0 : Int) < (w.log.length : Int) by omega)
  have q1 := tdiv_bd (show (0 : Int) ≤ (more.length : Int) by omega) (show (0 : Int) < 2 by omega)
  have q2 : IntKind.i64.wrap ((more.length : Int).tdiv 2) = (more.length : Int).tdiv 2 := wrap_in (by omega)
  have m2 := tmod_bd q1.1 (show (0 : Int) < 4 by omega)
  have hS := Stp.bring hW ((more.length : Int).tmod (w.log.length : Int)) (1 + ((more.length : Int).tdiv 2).tmod 4)
  have b2 := bring_twice w ((more.length : Int).tmod (w.log.length : Int)) (1 + ((more.length : Int).tdiv 2).tmod 4)
  have k1 := worldDo_ct w ⟨3, (more.length : Int).tmod (w.log.length : Int), 1 + ((more.length : Int).tdiv 2).tmod 4, .zero, .zero⟩
  rw [hdo] at k1
  have e1 : doF w ⟨3, (more.length : Int).tmod (w.log.length : Int), 1 + ((more.length : Int).tdiv 2).tmod 4, .zero, .zero⟩ = wbringF w ((more.length : Int).tmod (w.log.length : Int)) (1 + ((more.length : Int).tdiv 2).tmod 4) := by
    simp only [doF]; rw [if_neg (by decide), if_neg (by decide), if_pos (by decide)]
  rw [e1] at k1
  have k2 := worldDo_ct (wbringF w ((more.length : Int).tmod (w.log.length : Int)) (1 + ((more.length : Int).tdiv 2).tmod 4)) ⟨3, (more.length : Int).tmod (w.log.length : Int), 1 + ((more.length : Int).tdiv 2).tmod 4, .zero, .zero⟩
  have e2 : worldDoR (wbringF w ((more.length : Int).tmod (w.log.length : Int)) (1 + ((more.length : Int).tdiv 2).tmod 4)) ⟨3, (more.length : Int).tmod (w.log.length : Int), 1 + ((more.length : Int).tdiv 2).tmod 4, .zero, .zero⟩ = wbringF w ((more.length : Int).tmod (w.log.length : Int)) (1 + ((more.length : Int).tdiv 2).tmod 4) := by
    unfold worldDoR
    rw [if_pos (worldOk_iff.2 hS.ok)]
    simp only [doF]; rw [if_neg (by decide), if_neg (by decide), if_pos (by decide)]
    exact b2
  rw [e2] at k2
  generalize wbringF w ((more.length : Int).tmod (w.log.length : Int)) (1 + ((more.length : Int).tdiv 2).tmod 4) = y at k1 k2
  have kw := lwWorld_ct y y
  rw [show decide (y = y) = true from decide_eq_true rfl] at kw
  all_goals refine awp_seq (awp_region (id := 7) ?_)
  all_goals refine awpOps_cons (op_mv rfl (Conv.of rfl) rfl) ?_
  all_goals refine awpOps_cons (op_len sl22 rfl rfl) ?_
  all_goals refine awpOps_cons (op_fab f29_2 rfl rfl) ?_
  all_goals refine awpOps_cons (op_ld ty27 rfl rfl rfl) ?_
  all_goals refine awpOps_cons (op_len sl27 rfl rfl) ?_
  all_goals refine awpOps_cons (op_rem rfl rfl rfl (by exact hne)) ?_
  all_goals refine awpOps_cons (op_mv rfl (Conv.of rfl) rfl) ?_
  all_goals refine awpOps_cons (op_len sl22 rfl rfl) ?_
  all_goals refine awpOps_cons (op_quo rfl rfl rfl (by decide)) ?_
  all_goals refine awpOps_cons (op_rem rfl rfl rfl (by decide)) ?_
  all_goals refine awpOps_cons (op_add rfl rfl rfl (by (rw [q2]; omega))) ?_
  all_goals refine awpOps_cons (op_build (.cons f78_0 rfl (Conv.of rfl) (.cons f78_1 rfl (Conv.of rfl) (.cons f78_2 rfl (Conv.of rfl) (.nil _)))) z78 rfl pl78 rfl) ?_
  all_goals refine awpOps_cons (op_alloc (o := 3) z78 rfl rfl) ?_
  all_goals refine awpOps_cons (op_st ty78 rfl rfl (Conv.of rfl) rfl) ?_
  all_goals refine awpOps_nil ?_
  rw [q2]
  all_goals refine awp_seq (awp_region (id := 8) ?_)
  all_goals refine awpOps_cons (op_ld ty29 rfl rfl rfl) ?_
  all_goals refine awpOps_cons (op_ld ty78 rfl rfl rfl) ?_
  all_goals refine awpOps_cons (op_call fb47 (.cons rfl (Conv.of rfl) (.cons rfl (Conv.of rfl) (.nil _))) (k1) (argOk rfl rfl (argOk rfl rfl argOk0)) rfl rfl) ?_
  all_goals refine awpOps_cons (op_alloc (o := 4) z29 rfl rfl) ?_
  all_goals refine awpOps_cons (op_st ty29 rfl rfl (Conv.of rfl) rfl) ?_
  all_goals refine awpOps_nil ?_
  all_goals refine awp_seq (dr_start (id := 9) ?_)
  all_goals refine dr_cons (op_ld ty29 rfl rfl rfl) ?_
  all_goals refine dr_cons (op_ld ty78 rfl rfl rfl) ?_
  all_goals refine dr_cons (op_call fb47 (.cons rfl (Conv.of rfl) (.cons rfl (Conv.of rfl) (.nil _))) (k2) (argOk rfl rfl (argOk rfl rfl argOk0)) rfl rfl) ?_
  all_goals refine dr_cons (op_ld ty29 rfl rfl rfl) ?_
  all_goals refine dr_cons (op_call fb18 (.cons rfl (Conv.of rfl) (.cons rfl (Conv.of rfl) (.nil _))) (kw) (argOk rfl rfl (argOk rfl rfl argOk0)) rfl rfl) ?_
  all_goals refine dr_cons (op_as rfl (Conv.of rfl) rfl) ?_
  all_goals refine dr_nil mixed rfl ?_
  refine awp_ret ?_
  repeat first | refine rt_seq ?_ | refine rt_block ?_
  exact finP (.v rfl (Conv.of rfl)) rfl rfl
end Go.Proofs.YtmdhfalfppkpeaaGreat

/- The law FnWorldTwice returns true at every input, and leaves its arguments as they were. No condition. -/
set_option linter.unusedVariables false
namespace Go.Proofs.YtmdhfalfppkpeaaGreat.fnWorldTwice
open Go Go.ChangeShapes Go.WideShapes Go.ChangeAt Go.RowKit
theorem own : ownKnob Tryz.prog.godebug = none := by kernel_rfl
theorem laidOut : laidOutB Tryz.prog = true := by kernel_rfl
set_option maxRecDepth 100000 in
theorem lifted (os : Os) (started : os.Started) (H : Type) (enc : TypeId × Value → H) :
    ReturnsInHanded {} Tryz.checked os 12 .any (Rows.fnWorldTwiceSpec.pre6 enc Tryz.prog Tryz.f12 Rows.fnWorldTwiceRow.domain false) (Rows.fnWorldTwiceSpec.post enc Tryz.prog Tryz.f12 false true false false) := by
  refine returnsInHanded_of_change_sized (C := Tryz.checked) own started (by kernel_rfl) Tryz.func12
    (ChangeSpec.witness6 (enc := enc) (C := Tryz.checked) false ⟨#[], #[.slice none 0 0, .slice none 0 0], []⟩ 8 (by kernel_rfl) (by kernel_rfl) (by kernel_rfl) (by kernel_rfl)) ?_
  intro W base args ds gs before hval0 hW hcnd hsz0 _
  have hsz : (DataW.weightsEach Tryz.prog (Tryz.f12.params.toList ++ Rows.fnWorldTwiceSpec.plain.varTypes Tryz.prog) (ds ++ gs)).all (· ≤ reachBytes) = true := hsz0
  have hval : ∀ (j : Nat) t v, Tryz.f12.params[j]? = some t → args[j]? = some v → Value.okWide Tryz.prog W .any base t v := hval0
  have hW' := hW
  obtain ⟨p, q, hA0, hV, rfl, hfz, hnd⟩ := hW
  have hA : DataW.TrodAll enc Tryz.prog W 0 (fun _ => true) true Tryz.f12.params.toList args.toList ds p := hA0
  rw [Tryz.params12] at hA hval hsz
  obtain ⟨v0, vs0, d0, ds0, p0, q0, hargs, rfl, rfl, h0, r0⟩ := trodAll_cons hA
  obtain ⟨v1, vs1, d1, ds1, p1, q1, rfl, rfl, rfl, h1, r1⟩ := trodAll_cons r0
  obtain ⟨rfl, rfl, rfl⟩ := trodAll_nil r1
  obtain rfl : args = #[v0, v1] := by cases args; simp_all
  obtain ⟨rfl, rfl⟩ := trodVars_none hV
  obtain ⟨a0, len0, cap0, rfl⟩ := okWide_slice Tryz.underlying22 (hval 0 22 v0 rfl rfl)
  have k0 := h0
  have lt0 : ∀ x ∈ p0, x.block < W.heap.size := by obtain ⟨m, hm⟩ := k0; exact DataW.trod_lt m _ _ _ hm
  obtain ⟨z0, w0⟩ := Go.Wt.rowOf (fun _ => rfl) Tryz.underlying22 Tryz.underlying5 (by kernel_rfl) h0
  have y0 := Go.Wt.lenOf hsz (j := 0) (t := 22) rfl rfl Tryz.underlying22 Tryz.underlying5 (by kernel_rfl) (by kernel_rfl) h0
  obtain ⟨a1, len1, cap1, rfl⟩ := okWide_slice Tryz.underlying22 (hval 1 22 v1 rfl rfl)
  have k1 := h1
  have lt1 : ∀ x ∈ p1, x.block < W.heap.size := by obtain ⟨m, hm⟩ := k1; exact DataW.trod_lt m _ _ _ hm
  obtain ⟨z1, w1⟩ := Go.Wt.rowOf (fun _ => rfl) Tryz.underlying22 Tryz.underlying5 (by kernel_rfl) h1
  have y1 := Go.Wt.lenOf hsz (j := 1) (t := 22) rfl rfl Tryz.underlying22 Tryz.underlying5 (by kernel_rfl) (by kernel_rfl) h1
  clear hA0 hval0 hsz0 hsz
  refine (Go.Wt.row2 FnWorldTwice_ct W w0 y0 w1 y1).mono fun e W' ⟨he, bel⟩ => ?_
  subst he
  exact ⟨_, rfl, _, _, _, [], _, [], hW', trodAll_mk1 (shut_bool Tryz.underlying4 _), (trodAll_cons_mk (Below.trod laidOut (by kernel_rfl) (of_decide_eq_true (by kernel_rfl)) k0 bel lt0) (trodAll_cons_mk (Below.trod laidOut (by kernel_rfl) (of_decide_eq_true (by kernel_rfl)) k1 bel lt1) trodAll_mk0)), rfl, bel.frame _, fun h => by cases h⟩
theorem over : Rows.fnWorldTwiceRow.holds Tryz.pinned (OpenSpec.ofChange Rows.fnWorldTwiceSpec) :=
  OpenClaim.holds_of_wide 12 Tryz.f12 rfl rfl rfl rfl rfl rfl rfl ⟨rfl, rfl, rfl, rfl, rfl⟩ rfl rfl rfl rfl rfl (by kernel_rfl) Tryz.func12 (by kernel_rfl)
    (of_decide_eq_true (by kernel_rfl)) (by unfold Func.isWrapper; first | (rw [if_pos (by decide +kernel)]; kernel_rfl) | (rw [if_neg (by decide +kernel)]; exact ⟨rfl, rfl⟩))
    (fun os started H enc _ => lifted os started H enc)
end Go.Proofs.YtmdhfalfppkpeaaGreat.fnWorldTwice
namespace Go.Proofs.YtmdhfalfppkpeaaGreat
theorem fnWorldTwice_holds : Rows.FnWorldTwiceSaid := fnWorldTwice.over
#print axioms fnWorldTwice_holds
end Go.Proofs.YtmdhfalfppkpeaaGreat
