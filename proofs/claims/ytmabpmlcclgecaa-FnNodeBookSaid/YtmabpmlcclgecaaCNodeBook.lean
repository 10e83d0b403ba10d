/- The law FnNodeBook returns true at every input, and leaves its arguments as they were. No condition. -/
import Derived.Test.YtmabpmlcclgecaaM5
import Derived.Test.YtmabpmlcclgecaaRows
import Derived.WalkKit
import Derived.ProofKit
import Derived.OpenShut
import Derived.ShutString
import Derived.ChangeOld
import Derived.Below
import Derived.SizedLaws
import Derived.KernelRfl
/- A law: what all have is by what is final. -/
set_option linter.unusedVariables false
set_option linter.unusedSimpArgs false
namespace Go.Proofs.Ytmabpmlcclgecaa
open Go Go.Wt
set_option maxHeartbeats 4000000 in
theorem FnNodeBook_ct (code : List UInt8) : CtP Try.prog 7 [.v code] (.v true) := by
  refine Ct.intro Try.func7 rfl rfl ?_
  all_goals refine awp_seq (awp_region (id := 0) ?_)
  all_goals refine awpOps_cons (op_as rfl (Conv.of rfl) rfl) ?_
  all_goals refine awpOps_nil ?_
  all_goals refine awp_seq (awp_seq (awp_region (id := 1) ?_))
  all_goals refine awpOps_cons (op_mv rfl (Conv.of rfl) rfl) ?_
  all_goals refine awpOps_cons (op_len sl22 rfl rfl) ?_
  all_goals refine awpOps_cons (op_gtr rfl rfl rfl) ?_
  all_goals refine awpOps_nil ?_
  refine awp_cond rfl (fun h => ?_) (fun h => ?_)
  · all_goals refine awp_seq (awp_region (id := 2) ?_)
    all_goals refine awpOps_cons (op_as rfl (Conv.of rfl) rfl) ?_
    all_goals refine awpOps_nil ?_
    refine awp_ret ?_
    repeat first | refine rt_seq ?_ | refine rt_block ?_
    exact finP (.v rfl (Conv.of rfl)) rfl rfl
  refine awp_skip ?_
  all_goals refine awp_seq (awp_region (id := 3) ?_)
  all_goals refine awpOps_cons (op_mv rfl (Conv.of rfl) rfl) ?_
  refine awpOps_callE (ι := Nod) [] (fun i => .v i) (fun _ => []) (fun i => Ln i) rfl fb23 (.cons rfl (Conv.of rfl) (.nil _)) (drawNodeBook_ct code) (fun r h' ⟨n, e1, e2, e3⟩ => ⟨n, e1, e2, e3⟩) ols0 oks0 (argOk' rfl rfl argO0) rfl (fun _ => rfl) (fun _ => oks0) (fun _ o ho => by cases ho) ?_
  rintro n hn
  all_goals refine awpOps_cons (op_alloc (o := 0) z25 rfl rfl) ?_
  all_goals refine awpOps_cons (op_st ty25 rfl rfl (Conv.of rfl) rfl) ?_
  all_goals refine awpOps_nil ?_
  all_goals refine awp_seq (awp_region (id := 4) ?_)
  all_goals refine awpOps_cons (op_ld ty25 rfl rfl rfl) ?_
  all_goals refine awpOps_cons (op_call fb24 (.cons rfl (Conv.of rfl) (.nil _)) (nodeBookR_ct n) (argOk rfl rfl argOk0) rfl rfl) ?_
  all_goals refine awpOps_cons (op_as rfl (Conv.of rfl) rfl) ?_
  all_goals refine awpOps_nil ?_
  have k0 := lwInts_ct (nodeBookR n) (nodeBookR n)
  rw [show decide (nodeBookR n = nodeBookR n) = true from decide_eq_true rfl] at k0
  refine awp_seq (awp_seq_to (s' := mkSt 36 [(3, .box 0 (IsLens.whole Nod)), (4, .v (nodeBookR n)), (21, .v (decide ((nodeBookR n).length = 0)))] [(0, .cell n)]) ?_ ?_)
  · all_goals refine awp_region (id := 5) ?_
    all_goals refine awpOps_cons (op_mv rfl (Conv.of rfl) rfl) ?_
    all_goals refine awpOps_cons (op_ld ty25 rfl rfl rfl) ?_
    all_goals refine awpOps_cons (op_call fb26 (.cons rfl (Conv.of rfl) (.nil _)) (sNodeBook_ct n) (argOk rfl rfl argOk0) rfl rfl) ?_
    all_goals refine awpOps_cons (op_call fb25 (.cons rfl (Conv.of rfl) (.cons rfl (Conv.of rfl) (.nil _))) (k0) (argOk rfl rfl (argOk rfl rfl argOk0)) rfl rfl) ?_
    all_goals refine awpOps_cons (op_not rfl rfl) ?_
    all_goals refine awpOps_cons (op_mv rfl (Conv.of rfl) rfl) ?_
    all_goals refine g_lit (t := 17) (b := false) rfl ?_
    all_goals refine awpOps_cons (g_on rfl rfl rfl (op_mv rfl (Conv.of rfl) rfl)) ?_
    all_goals refine awpOps_cons (g_on rfl rfl rfl (op_len sl52 rfl rfl)) ?_
    all_goals refine awpOps_cons (g_on rfl rfl rfl (op_eql rfl rfl rfl)) ?_
    all_goals refine awpOps_cons (op_pick rfl rfl rfl rfl) ?_
    all_goals refine awpOps_nil ?_
    all_goals exact Le.mk rfl (tlb rfl rfl rfl (tle rfl (rfl) rfl (tle rfl (by (have e1 : ∀ b : Bool, Enc.dis b = b := fun _ => rfl; show AV.v _ = AV.v _; simp_all; try (rw [Bool.eq_iff_iff]; simp))) rfl tln))) (olk rfl (by exact obOk_cell) oln) noS
  refine awp_cond rfl (fun h => ?_) (fun h => ?_)
  · all_goals refine awp_seq (awp_region (id := 6) ?_)
    all_goals refine awpOps_cons (op_mv rfl (Conv.of rfl) rfl) ?_
    all_goals refine awpOps_cons (op_ld ty25 rfl rfl rfl) ?_
    all_goals refine awpOps_cons (op_call fb26 (.cons rfl (Conv.of rfl) (.nil _)) (sNodeBook_ct n) (argOk rfl rfl argOk0) rfl rfl) ?_
    all_goals refine awpOps_cons (op_call fb25 (.cons rfl (Conv.of rfl) (.cons rfl (Conv.of rfl) (.nil _))) (k0) (argOk rfl rfl (argOk rfl rfl argOk0)) rfl rfl) ?_
    all_goals refine awpOps_cons (op_as rfl (Conv.of rfl) rfl) ?_
    all_goals refine awpOps_nil ?_
    refine awp_ret ?_
    repeat first | refine rt_seq ?_ | refine rt_block ?_
    exact finP (.v rfl (Conv.of rfl)) rfl rfl
  have hno : nodeOk n = true := by
    cases hno : nodeOk n with
    | true => rfl
    | false => simp [nodeBookR, hno] at h
  have hs := nodeOk_seen hno
  have hfc := final_chainOk (votesOk_mem hs.1)
  have hR : nodeBookR n = bookF (finalOf n.seen) := by unfold nodeBookR; rw [if_pos hno]
  rw [hR] at k0 ⊢
  refine awp_skip ?_
  all_goals refine awp_seq (awp_region (id := 7) ?_)
  all_goals refine awpOps_cons (op_mv rfl (Conv.of rfl) rfl) ?_
  all_goals refine awpOps_cons (op_fab f25_3 rfl rfl) ?_
  all_goals refine awpOps_cons (op_ld ty23 rfl rfl rfl) ?_
  all_goals refine awpOps_cons (op_call fb28 (.cons rfl (Conv.of rfl) (.nil _)) (treeFinal_ct _ hs.1 (by omega)) (argOk rfl rfl argOk0) rfl rfl) ?_
  all_goals refine awpOps_cons (op_call fb27 (.cons rfl (Conv.cl) (.nil _)) (bookOf_ct _ hfc) (argOk rfl rfl argOk0) rfl rfl) ?_
  all_goals refine awpOps_cons (op_call fb25 (.cons rfl (Conv.of rfl) (.cons rfl (Conv.of rfl) (.nil _))) (k0) (argOk rfl rfl (argOk rfl rfl argOk0)) rfl rfl) ?_
  all_goals refine awpOps_cons (op_mv rfl (Conv.of rfl) rfl) ?_
  all_goals refine g_lit (t := 32) (b := true) rfl ?_
  all_goals refine awpOps_cons (g_on rfl rfl rfl (op_mv rfl (Conv.of rfl) rfl)) ?_
  all_goals refine awpOps_cons (g_on rfl rfl rfl (op_call fb29 (.cons rfl (Conv.of rfl) (.nil _)) (bookOk_ct _ (book_bk hfc)) (argOk rfl rfl argOk0) rfl rfl)) ?_
  all_goals refine awpOps_cons (op_pick rfl rfl rfl rfl) ?_
  all_goals refine awpOps_cons (op_as rfl (Conv.of rfl) rfl) ?_
  all_goals refine awpOps_nil ?_
  all_goals refine awp_ret ?_
  all_goals refine finP (.v rfl (Conv.of rfl)) rfl ?_
  all_goals have e1 : ∀ b : Bool, Enc.dis b = b := fun _ => rfl
  all_goals have e2 : ∀ y : Nod, Enc.dis y = y := fun _ => rfl
  all_goals have e3 : ∀ y : Vote, Enc.dis y = y := fun _ => rfl
  all_goals simp_all [FV.av]
end Go.Proofs.Ytmabpmlcclgecaa

/- The law FnNodeBook returns true at every input, and leaves its arguments as they were. No condition. -/
set_option linter.unusedVariables false
namespace Go.Proofs.Ytmabpmlcclgecaa.fnNodeBook
open Go Go.ChangeShapes Go.WideShapes Go.ChangeAt Go.RowKit
theorem own : ownKnob Try.prog.godebug = none := by kernel_rfl
theorem laidOut : laidOutB Try.prog = true := by kernel_rfl
set_option maxRecDepth 100000 in
theorem lifted (os : Os) (started : os.Started) (H : Type) (enc : TypeId × Value → H) :
    ReturnsInHanded {} Try.checked os 7 .any (Rows.fnNodeBookSpec.pre6 enc Try.prog Try.f7 Rows.fnNodeBookRow.domain false) (Rows.fnNodeBookSpec.post enc Try.prog Try.f7 false true false false) := by
  refine returnsInHanded_of_change_sized (C := Try.checked) own started (by kernel_rfl) Try.func7
    (ChangeSpec.witness6 (enc := enc) (C := Try.checked) false ⟨#[], #[.slice none 0 0], []⟩ 8 (by kernel_rfl) (by kernel_rfl) (by kernel_rfl) (by kernel_rfl)) ?_
  intro W base args ds gs before hval0 hW hcnd hsz0 _
  have hsz : (DataW.weightsEach Try.prog (Try.f7.params.toList ++ Rows.fnNodeBookSpec.plain.varTypes Try.prog) (ds ++ gs)).all (· ≤ reachBytes) = true := hsz0
  have hval : ∀ (j : Nat) t v, Try.f7.params[j]? = some t → args[j]? = some v → Value.okWide Try.prog W .any base t v := hval0
  have hW' := hW
  obtain ⟨p, q, hA0, hV, rfl, hfz, hnd⟩ := hW
  have hA : DataW.TrodAll enc Try.prog W 0 (fun _ => true) true Try.f7.params.toList args.toList ds p := hA0
  rw [Try.params7] at hA hval hsz
  obtain ⟨v0, vs0, d0, ds0, p0, q0, hargs, rfl, rfl, h0, r0⟩ := trodAll_cons hA
  obtain ⟨rfl, rfl, rfl⟩ := trodAll_nil r0
  obtain rfl : args = #[v0] := by cases args; simp_all
  obtain ⟨rfl, rfl⟩ := trodVars_none hV
  obtain ⟨a0, len0, cap0, rfl⟩ := okWide_slice Try.underlying22 (hval 0 22 v0 rfl rfl)
  have k0 := h0
  have lt0 : ∀ x ∈ p0, x.block < W.heap.size := by obtain ⟨m, hm⟩ := k0; exact DataW.trod_lt m _ _ _ hm
  obtain ⟨z0, w0⟩ := Go.Wt.rowOf (fun _ => rfl) Try.underlying22 Try.underlying5 (by kernel_rfl) h0
  have y0 := Go.Wt.lenOf hsz (j := 0) (t := 22) rfl rfl Try.underlying22 Try.underlying5 (by kernel_rfl) (by kernel_rfl) h0
  clear hA0 hval0 hsz0 hsz
  refine (Go.Wt.row1 FnNodeBook_ct W w0 y0).mono fun e W' ⟨he, bel⟩ => ?_
  subst he
  exact ⟨_, rfl, _, _, _, [], _, [], hW', trodAll_mk1 (shut_bool Try.underlying4 _), (trodAll_cons_mk (Below.trod laidOut (by kernel_rfl) (of_decide_eq_true (by kernel_rfl)) k0 bel lt0) trodAll_mk0), rfl, bel.frame _, fun h => by cases h⟩
theorem over : Rows.fnNodeBookRow.holds Try.pinned (OpenSpec.ofChange Rows.fnNodeBookSpec) :=
  OpenClaim.holds_of_wide 7 Try.f7 rfl rfl rfl rfl rfl rfl rfl ⟨rfl, rfl, rfl, rfl, rfl⟩ rfl rfl rfl rfl rfl (by kernel_rfl) Try.func7 (by kernel_rfl)
    (of_decide_eq_true (by kernel_rfl)) (by unfold Func.isWrapper; first | (rw [if_pos (by decide +kernel)]; kernel_rfl) | (rw [if_neg (by decide +kernel)]; exact ⟨rfl, rfl⟩))
    (fun os started H enc _ => lifted os started H enc)
end Go.Proofs.Ytmabpmlcclgecaa.fnNodeBook
namespace Go.Proofs.Ytmabpmlcclgecaa
theorem fnNodeBook_holds : Rows.FnNodeBookSaid := fnNodeBook.over
#print axioms fnNodeBook_holds
end Go.Proofs.Ytmabpmlcclgecaa
