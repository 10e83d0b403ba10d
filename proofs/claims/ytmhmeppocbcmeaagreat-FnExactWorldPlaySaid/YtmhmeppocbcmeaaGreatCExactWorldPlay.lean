/- The law FnExactWorldPlay returns true at every input, and leaves its arguments as they were. No condition. -/
import Derived.Test.YtmhmeppocbcmeaaGreatM5
import Derived.Test.YtmhmeppocbcmeaaGreatRows
import Derived.WalkKit
import Derived.ProofKit
import Derived.OpenShut
import Derived.ShutString
import Derived.ChangeOld
import Derived.Below
import Derived.SizedLaws
import Derived.KernelRfl
/- FnExactWorldPlay: the program's WorldPlay returns what the reference's returns, shares no memory, and leaves its arguments as they are. -/
set_option linter.unusedVariables false
set_option linter.unusedSimpArgs false
namespace Go.Proofs.YtmhmeppocbcmeaaGreat
open Go Go.Wt
theorem sE_all {l : List Evt} (h : tL tE l ≤ 1048576) : tS sE l ≤ 7 * 1048576 := by
  have := tS_mono (s := sE) (t := tE) (c := 7) sE_le l
  omega
set_option maxHeartbeats 2000000 in
theorem FnExactWorldPlay_ct (bad : Int) (es : List Evt) : CtP Tryz.prog 4 [.v bad, .v es] (.v true) := by
  have hdo := sW_t (play_t bad es)
  refine Ct.intro Tryz.func4 rfl rfl ?_
  all_goals refine aS (aR ?_)
  all_goals refine oC (oA rfl (Conv.of rfl) rfl) ?_
  all_goals refine oN ?_
  all_goals refine aS (aR ?_)
  all_goals refine oC (oA rfl (Conv.of rfl) rfl) ?_
  all_goals refine oN ?_
  all_goals refine aS (aR ?_)
  all_goals refine oC (oM rfl (Conv.of rfl) rfl) ?_
  all_goals refine oC (oM rfl (Conv.of rfl) rfl) ?_
  all_goals refine oC (oL fb14 (.cons rfl (Conv.of rfl) (.cons rfl (Conv.of rfl) (.nil _))) (szEventS_ct _ _ ⟨by omega, by omega⟩) (aK rfl rfl (aK rfl rfl aK0)) rfl rfl) ?_
  all_goals refine oC (oA rfl (Conv.of rfl) rfl) ?_
  all_goals refine oN ?_
  all_goals refine aS (aS (aR ?_))
  all_goals refine oC (oM rfl (Conv.of rfl) rfl) ?_
  all_goals refine oC (oLt rfl rfl rfl) ?_
  all_goals refine oN ?_
  refine aC rfl (fun h => ?_) (fun h => ?_)
  · all_goals refine aS (aR ?_)
    all_goals refine oC (oA rfl (Conv.of rfl) rfl) ?_
    all_goals refine oN ?_
    refine aT ?_
    repeat first | refine rS ?_ | refine rB ?_
    exact finP (.v rfl (Conv.of rfl)) rfl rfl
  have hz := szR_of h
  have hbe := bes_of (l := es) (by omega)
  have hse := sE_all (l := es) (by omega)
  refine aW ?_
  all_goals refine aS (aR ?_)
  all_goals refine oC (oM rfl (Conv.of rfl) rfl) ?_
  all_goals refine oC (oM rfl (Conv.of rfl) rfl) ?_
  all_goals refine oC (oL fb16 (.cons rfl (Conv.of rfl) (.nil _)) (toEventS_p _ hbe.1 hbe.2) (aK rfl rfl aK0) rfl rfl) ?_
  all_goals refine oC (oL fb15 (.cons rfl (Conv.of rfl) (.cons rfl (Conv.of rfl) (.nil _))) (sPlayR_ct _ _) (aK rfl rfl (aK rfl rfl aK0)) rfl rfl) ?_
  all_goals refine oC (oM rfl (Conv.of rfl) rfl) ?_
  all_goals refine oC (op_ext rfl rfl rfl) ?_
  all_goals refine oC (op_ext rfl rfl rfl) ?_
  all_goals refine oC (oX (o := 7) z26 rfl rfl) ?_
  all_goals refine oC (op_st ty26 rfl rfl (Conv.of rfl) rfl) ?_
  all_goals refine oC (oA rfl (Conv.of rfl) rfl) ?_
  all_goals refine oN ?_
  all_goals refine aS (aR ?_)
  all_goals refine oC (oM rfl (Conv.of rfl) rfl) ?_
  all_goals refine awpOps_deep (E := ES EE 8) (dd := fun l : List Evt => DList.mk (l.map Evt.d) true) 20 0 fb16 (.pl rfl .nil) (deepS deepE rfl) (toEventS_d es hbe.1 hbe.2) rfl rfl rfl rfl rfl (fun c1 => ?_)
  all_goals refine oC (oA rfl (Conv.of rfl) rfl) ?_
  all_goals refine oN ?_
  all_goals refine aS (aR ?_)
  all_goals refine oC (oM rfl (Conv.of rfl) rfl) ?_
  all_goals refine oC (oM rfl (Conv.of rfl) rfl) ?_
  all_goals refine awpOps_deepB (E := EWd) (dd := Wrld.d) 4 3 fb17 (.pl rfl (.rv 20 rfl rfl rfl .nil)) deepW (play_d bad es) rfl rfl rfl rfl rfl (fun c2 => ?_)
  all_goals refine oC (oM rfl (Conv.of rfl) rfl) ?_
  all_goals refine oC (op_ext rfl rfl rfl) ?_
  all_goals refine oC (op_ext rfl rfl rfl) ?_
  all_goals refine oC (oX (o := 10) z26_Rv3 rfl rfl) ?_
  all_goals refine oC (op_st ty26_Rv3 rfl rfl (Conv.of rfl) rfl) ?_
  all_goals refine oC (oA rfl (Conv.of rfl) rfl) ?_
  all_goals refine oN ?_
  refine aS (aST (s' := mkSt 101 [(0, .v bad), (1, .v es), (6, .box 7 (IsLens.whole Wrld)), (7, .v (playR bad es).2), (8, .v (Rv.mk (n := 0) c1)), (9, .box 10 (IsLens.whole (Rv 3))), (10, .v (playR bad es).2), (20, .v (Rm.mk (E := ES EE 8) c1 es true)), (4, .v (Rm.mk (E := EWd) c2 (playR bad es).1 true)), (44, .v false)] [(7, .cell (playR bad es).1), (10, .cell (Rv.mk (n := 3) c2))]) ?_ ?_)
  · all_goals refine aR ?_
    all_goals refine oC (oD ty26_Rv3 rfl rfl rfl) ?_
    all_goals refine oC (oD ty26 rfl rfl rfl) ?_
    all_goals refine oC (op_obsB fb18 (.rv 4 rfl rfl rfl (.pl rfl .nil)) (eqWorld_ct _ _) rfl) ?_
    all_goals refine oC (op_not rfl rfl) ?_
    all_goals refine oC (oM rfl (Conv.of rfl) rfl) ?_
    all_goals refine g_split (t := 40) rfl (fun h => ?_) (fun h => ?_)
    all_goals first | refine oC (gF rfl rfl rfl rfl rfl) ?_ | refine oC (gN rfl rfl rfl (oM rfl (Conv.of rfl) rfl)) ?_
    all_goals first | refine oC (gF rfl rfl rfl rfl rfl) ?_ | refine oC (gN rfl rfl rfl (oM rfl (Conv.of rfl) rfl)) ?_
    all_goals first | refine oC (gF rfl rfl rfl rfl rfl) ?_ | refine oC (gN rfl rfl rfl (op_bneq ub4 rfl rfl rfl)) ?_
    all_goals refine oC (oQ rfl rfl rfl rfl) ?_
    all_goals refine oN ?_
    all_goals exact Le.mk rfl (tle rfl (rfl) rfl (tle rfl (rfl) rfl (tlb rfl rfl rfl (tle rfl (rfl) rfl (tle rfl (rfl) rfl (tlb rfl rfl rfl (tle rfl (rfl) rfl (tle rfl (rfl) rfl (tle rfl (rfl) rfl (tle rfl (by (show AV.v _ = AV.v _; simp_all [Plain.dis_eq]; try omega)) rfl tln)))))))))) (olk rfl (by exact obOkDc _) (olk rfl (by exact obOkDc _) oln)) noS
  refine aC rfl (fun h3 => absurd h3 (by simp)) (fun h3 => ?_)
  refine aW ?_
  all_goals refine aS (aS (aR ?_))
  all_goals refine oC (oM rfl (Conv.of rfl) rfl) ?_
  all_goals refine oC (oM rfl (Conv.of rfl) rfl) ?_
  all_goals refine oC (oL fb16 (.cons rfl (Conv.of rfl) (.nil _)) (toEventS_p _ hbe.1 hbe.2) (aK rfl rfl aK0) rfl rfl) ?_
  all_goals refine oC (op_obsB fb19 (.rv 20 rfl rfl rfl (.pl rfl .nil)) (eqEventS_ct _ _) rfl) ?_
  all_goals refine oC (op_not rfl rfl) ?_
  all_goals refine oN ?_
  refine aC rfl (fun h4 => absurd h4 (by simp)) (fun h4 => ?_)
  refine aW ?_
  all_goals refine aS (aR ?_)
  all_goals refine oC (oA rfl (Conv.of rfl) rfl) ?_
  all_goals refine oN ?_
  all_goals refine aS (aR ?_)
  all_goals refine oC (oM rfl (Conv.of rfl) rfl) ?_
  all_goals refine oC (oM rfl (Conv.of rfl) rfl) ?_
  all_goals refine oC (op_mark (q := 20) (E := ES EE 8) (y0 := es) (y1 := mkL fE sE es 1) fb20 rfl rfl rfl rfl (markEventS_x _ _ _ ⟨by omega, by omega⟩) rfl) ?_
  all_goals refine oC (oA rfl (Conv.of rfl) rfl) ?_
  all_goals refine oN ?_
  refine aS (aST (s' := mkSt 101 [(0, .v bad), (1, .v es), (6, .box 7 (IsLens.whole Wrld)), (7, .v (playR bad es).2), (9, .box 10 (IsLens.whole (Rv 3))), (10, .v (playR bad es).2), (4, .v (Rm.mk (E := EWd) c2 (playR bad es).1 true)), (65, .v false)] [(7, .cell (playR bad es).1), (10, .cell (Rv.mk (n := 3) c2))]) ?_ ?_)
  · all_goals refine aR ?_
    all_goals refine oC (oM rfl (Conv.of rfl) rfl) ?_
    all_goals refine oC (oLt rfl rfl rfl) ?_
    all_goals refine oC (oM rfl (Conv.of rfl) rfl) ?_
    all_goals refine g_lit (t := 55) (b := false) rfl ?_
    all_goals refine oC (gN rfl rfl rfl (oD ty26_Rv3 rfl rfl rfl)) ?_
    all_goals refine oC (gN rfl rfl rfl (oD ty26 rfl rfl rfl)) ?_
    all_goals refine oC (gN rfl rfl rfl (op_obsB fb18 (.rv 4 rfl rfl rfl (.pl rfl .nil)) (eqWorld_ct _ _) rfl)) ?_
    all_goals refine oC (gN rfl rfl rfl (op_not rfl rfl)) ?_
    all_goals refine oC (oQ rfl rfl rfl rfl) ?_
    all_goals refine oC (oM rfl (Conv.of rfl) rfl) ?_
    all_goals refine g_split (t := 61) rfl (fun h => ?_) (fun h => ?_)
    all_goals first | refine oC (gF rfl rfl rfl rfl rfl) ?_ | refine oC (gN rfl rfl rfl (oM rfl (Conv.of rfl) rfl)) ?_
    all_goals first | refine oC (gF rfl rfl rfl rfl rfl) ?_ | refine oC (gN rfl rfl rfl (oM rfl (Conv.of rfl) rfl)) ?_
    all_goals first | refine oC (gF rfl rfl rfl rfl rfl) ?_ | refine oC (gN rfl rfl rfl (op_bneq ub4 rfl rfl rfl)) ?_
    all_goals refine oC (oQ rfl rfl rfl rfl) ?_
    all_goals refine oN ?_
    all_goals exact Le.mk rfl (tle rfl (rfl) rfl (tle rfl (rfl) rfl (tlb rfl rfl rfl (tle rfl (rfl) rfl (tlb rfl rfl rfl (tle rfl (rfl) rfl (tle rfl (rfl) rfl (tle rfl (by (show AV.v _ = AV.v _; simp_all [Plain.dis_eq]; try omega)) rfl tln)))))))) (olk rfl (by exact obOkDc _) (olk rfl (by exact obOkDc _) oln)) noS
  refine aC rfl (fun h6 => absurd h6 (by simp)) (fun h6 => ?_)
  refine aW ?_
  all_goals refine aS (aR ?_)
  all_goals refine oC (oA rfl (Conv.of rfl) rfl) ?_
  all_goals refine oN ?_
  all_goals refine aS (aR ?_)
  all_goals refine oC (oD ty26_Rv3 rfl rfl rfl) ?_
  all_goals refine oC (oM rfl (Conv.of rfl) rfl) ?_
  all_goals refine oC (op_mark (q := 4) (E := EWd) (y0 := (playR bad es).1) (y1 := fWd (playR bad es).1 1) fb21 rfl rfl rfl rfl (markWorld_x _ _ _ ⟨by omega, by omega⟩) rfl) ?_
  all_goals refine oC (oA rfl (Conv.of rfl) rfl) ?_
  all_goals refine oN ?_
  all_goals refine aS (aR ?_)
  all_goals refine oC (oA rfl (Conv.of rfl) rfl) ?_
  all_goals refine oN ?_
  all_goals refine aS (aR ?_)
  all_goals refine oC (oD ty26_Rv3 rfl rfl rfl) ?_
  all_goals refine oC (oM rfl (Conv.of rfl) rfl) ?_
  all_goals refine oC (op_obsI fb22 (.rv 4 rfl rfl rfl (.pl rfl .nil)) (heldWorld_ct (playR bad es).1 1 ⟨by omega, by omega⟩) rfl) ?_
  all_goals refine oC (oA rfl (Conv.of rfl) rfl) ?_
  all_goals refine oN ?_
  all_goals refine aS (aS (aR ?_))
  all_goals refine oC (oM rfl (Conv.of rfl) rfl) ?_
  all_goals refine oC (oLt rfl rfl rfl) ?_
  all_goals refine oN ?_
  refine aC rfl (fun h7 => absurd h7 (by simp; omega)) (fun h7 => ?_)
  refine aW ?_
  all_goals refine aS (aS (aR ?_))
  all_goals refine oC (oM rfl (Conv.of rfl) rfl) ?_
  all_goals refine oC (oM rfl (Conv.of rfl) rfl) ?_
  all_goals refine oC (op_neq rfl rfl rfl) ?_
  all_goals refine oN ?_
  refine aC rfl (fun h8 => absurd h8 (by simp)) (fun h8 => ?_)
  refine aW ?_
  all_goals refine aS (aR ?_)
  all_goals refine oC (oM rfl (Conv.of rfl) rfl) ?_
  all_goals refine oC (oM rfl (Conv.of rfl) rfl) ?_
  all_goals refine oC (oL fb16 (.cons rfl (Conv.of rfl) (.nil _)) (toEventS_p _ hbe.1 hbe.2) (aK rfl rfl aK0) rfl rfl) ?_
  all_goals refine oC (oL fb17 (.cons rfl (Conv.of rfl) (.cons rfl (Conv.of rfl) (.nil _))) (iPlay_ct _ _) (aK rfl rfl (aK rfl rfl aK0)) rfl rfl) ?_
  all_goals refine oC (oM rfl (Conv.of rfl) rfl) ?_
  all_goals refine oC (op_ext rfl rfl rfl) ?_
  all_goals refine oC (op_ext rfl rfl rfl) ?_
  all_goals refine oC (oX (o := 11) z26 rfl rfl) ?_
  all_goals refine oC (op_st ty26 rfl rfl (Conv.of rfl) rfl) ?_
  all_goals refine oC (oA rfl (Conv.of rfl) rfl) ?_
  all_goals refine oN ?_
  refine aS (aST (s' := mkSt 101 [(12, .v (1 + (sWd (playR bad es).1 : Int))), (9, .box 10 (IsLens.whole (Rv 3))), (4, .v (Rm.mk (E := EWd) c2 (fWd (playR bad es).1 1) true)), (92, .v false)] [(10, .cell (Rv.mk (n := 3) c2))]) ?_ ?_)
  · all_goals refine aR ?_
    all_goals refine oC (oD ty26 rfl rfl rfl) ?_
    all_goals refine oC (oD ty26 rfl rfl rfl) ?_
    all_goals refine oC (oL fb18 (.cons rfl (Conv.of rfl) (.cons rfl (Conv.of rfl) (.nil _))) (eqWorld_ct _ _) (aK rfl rfl (aK rfl rfl aK0)) rfl rfl) ?_
    all_goals refine oC (op_not rfl rfl) ?_
    all_goals refine oC (oM rfl (Conv.of rfl) rfl) ?_
    all_goals refine g_split (t := 88) rfl (fun h => ?_) (fun h => ?_)
    all_goals first | refine oC (gF rfl rfl rfl rfl rfl) ?_ | refine oC (gN rfl rfl rfl (oM rfl (Conv.of rfl) rfl)) ?_
    all_goals first | refine oC (gF rfl rfl rfl rfl rfl) ?_ | refine oC (gN rfl rfl rfl (oM rfl (Conv.of rfl) rfl)) ?_
    all_goals first | refine oC (gF rfl rfl rfl rfl rfl) ?_ | refine oC (gN rfl rfl rfl (op_bneq ub4 rfl rfl rfl)) ?_
    all_goals refine oC (oQ rfl rfl rfl rfl) ?_
    all_goals refine oN ?_
    all_goals exact Le.mk rfl (tle rfl (rfl) rfl (tlb rfl rfl rfl (tle rfl (rfl) rfl (tle rfl (by (show AV.v _ = AV.v _; simp_all [Plain.dis_eq]; try omega)) rfl tln)))) (olk rfl (by exact obOkDc _) oln) noS
  refine aC rfl (fun h9 => absurd h9 (by simp)) (fun h9 => ?_)
  refine aW ?_
  all_goals refine aS (aR ?_)
  all_goals refine oC (oA rfl (Conv.of rfl) rfl) ?_
  all_goals refine oN ?_
  all_goals refine aS (aR ?_)
  all_goals refine oC (oD ty26_Rv3 rfl rfl rfl) ?_
  all_goals refine oC (oM rfl (Conv.of rfl) rfl) ?_
  all_goals refine oC (op_obsI fb22 (.rv 4 rfl rfl rfl (.pl rfl .nil)) (heldWorld_ct (playR bad es).1 1 ⟨by omega, by omega⟩) rfl) ?_
  all_goals refine oC (oA rfl (Conv.of rfl) rfl) ?_
  all_goals refine oN ?_
  all_goals refine aS (aS (aR ?_))
  all_goals refine oC (oM rfl (Conv.of rfl) rfl) ?_
  all_goals refine oC (oLt rfl rfl rfl) ?_
  all_goals refine oN ?_
  refine aC rfl (fun h10 => absurd h10 (by simp; omega)) (fun h10 => ?_)
  refine aW ?_
  all_goals refine aS (aS (aR ?_))
  all_goals refine oC (oM rfl (Conv.of rfl) rfl) ?_
  all_goals refine oC (oM rfl (Conv.of rfl) rfl) ?_
  all_goals refine oC (op_neq rfl rfl rfl) ?_
  all_goals refine oN ?_
  refine aC rfl (fun h11 => absurd h11 (by simp)) (fun h11 => ?_)
  refine aW ?_
  all_goals refine aS (aR ?_)
  all_goals refine oC (oA rfl (Conv.of rfl) rfl) ?_
  all_goals refine oN ?_
  refine aT ?_
  repeat first | refine rS ?_ | refine rB ?_
  exact finP (.v rfl (Conv.of rfl)) rfl rfl
end Go.Proofs.YtmhmeppocbcmeaaGreat

/- The law FnExactWorldPlay returns true at every input, and leaves its arguments as they were. No condition. -/
set_option linter.unusedVariables false
namespace Go.Proofs.YtmhmeppocbcmeaaGreat.fnExactWorldPlay
open Go Go.ChangeShapes Go.WideShapes Go.ChangeAt Go.RowKit
theorem own : ownKnob Tryz.prog.godebug = none := by kernel_rfl
theorem laidOut : laidOutB Tryz.prog = true := by kernel_rfl
set_option maxRecDepth 100000 in
theorem lifted (os : Os) (started : os.Started) (H : Type) (enc : TypeId × Value → H) :
    ReturnsInHanded {} Tryz.checked os 4 .any (Rows.fnExactWorldPlaySpec.pre6 enc Tryz.prog Tryz.f4 Rows.fnExactWorldPlayRow.domain false) (Rows.fnExactWorldPlaySpec.post enc Tryz.prog Tryz.f4 false true false false) := by
  refine returnsInHanded_of_change_sized (C := Tryz.checked) own started (by kernel_rfl) Tryz.func4
    (ChangeSpec.witness6 (enc := enc) (C := Tryz.checked) false ⟨#[], #[.int .i64 0, .slice none 0 0], []⟩ 8 (by kernel_rfl) (by kernel_rfl) (by kernel_rfl) (by kernel_rfl)) ?_
  intro W base args ds gs before hval0 hW hcnd hsz0 _
  have hsz : (DataW.weightsEach Tryz.prog (Tryz.f4.params.toList ++ Rows.fnExactWorldPlaySpec.plain.varTypes Tryz.prog) (ds ++ gs)).all (· ≤ reachBytes) = true := hsz0
  have hval : ∀ (j : Nat) t v, Tryz.f4.params[j]? = some t → args[j]? = some v → Value.okWide Tryz.prog W .any base t v := hval0
  have hW' := hW
  obtain ⟨p, q, hA0, hV, rfl, hfz, hnd⟩ := hW
  have hA : DataW.TrodAll enc Tryz.prog W 0 (fun _ => true) true Tryz.f4.params.toList args.toList ds p := hA0
  rw [Tryz.params4] at hA hval hsz
  obtain ⟨v0, vs0, d0, ds0, p0, q0, hargs, rfl, rfl, h0, r0⟩ := trodAll_cons hA
  obtain ⟨v1, vs1, d1, ds1, p1, q1, rfl, rfl, rfl, h1, r1⟩ := trodAll_cons r0
  obtain ⟨rfl, rfl, rfl⟩ := trodAll_nil r1
  obtain rfl : args = #[v0, v1] := by cases args; simp_all
  obtain ⟨rfl, rfl⟩ := trodVars_none hV
  obtain ⟨n0, rfl⟩ := okWide_int Tryz.underlying3 (hval 0 3 v0 rfl rfl)
  have k0 := h0
  have lt0 : ∀ x ∈ p0, x.block < W.heap.size := by obtain ⟨m, hm⟩ := k0; exact DataW.trod_lt m _ _ _ hm
  have y0 := Go.Wt.arg_of (j := 0) (t := 3) trInt h0 hsz rfl rfl Go.Wt.val_int
  obtain ⟨a1, len1, cap1, rfl⟩ := okWide_slice Tryz.underlying41 (hval 1 41 v1 rfl rfl)
  have k1 := h1
  have lt1 : ∀ x ∈ p1, x.block < W.heap.size := by obtain ⟨m, hm⟩ := k1; exact DataW.trod_lt m _ _ _ hm
  have y1 := Go.Wt.arg_of (j := 1) (t := 41) trEventS h1 hsz rfl rfl Go.Wt.val_slice
  clear hA0 hval0 hsz0 hsz
  refine (Go.Wt.row_two FnExactWorldPlay_ct y0 y1).mono fun e W' ⟨he, bel⟩ => ?_
  subst he
  exact ⟨_, rfl, _, _, _, [], _, [], hW', trodAll_mk1 (shut_bool Tryz.underlying4 _), (trodAll_cons_mk (Below.trod laidOut (by kernel_rfl) (of_decide_eq_true (by kernel_rfl)) k0 bel lt0) (trodAll_cons_mk (Below.trod laidOut (by kernel_rfl) (of_decide_eq_true (by kernel_rfl)) k1 bel lt1) trodAll_mk0)), rfl, bel.frame _, fun h => by cases h⟩
theorem over : Rows.fnExactWorldPlayRow.holds Tryz.pinned (OpenSpec.ofChange Rows.fnExactWorldPlaySpec) :=
  OpenClaim.holds_of_wide 4 Tryz.f4 rfl rfl rfl rfl rfl rfl rfl ⟨rfl, rfl, rfl, rfl, rfl⟩ rfl rfl rfl rfl rfl (by kernel_rfl) Tryz.func4 (by kernel_rfl)
    (of_decide_eq_true (by kernel_rfl)) (by unfold Func.isWrapper; first | (rw [if_pos (by decide +kernel)]; kernel_rfl) | (rw [if_neg (by decide +kernel)]; exact ⟨rfl, rfl⟩))
    (fun os started H enc _ => lifted os started H enc)
end Go.Proofs.YtmhmeppocbcmeaaGreat.fnExactWorldPlay
namespace Go.Proofs.YtmhmeppocbcmeaaGreat
theorem fnExactWorldPlay_holds : Rows.FnExactWorldPlaySaid := fnExactWorldPlay.over
#print axioms fnExactWorldPlay_holds
end Go.Proofs.YtmhmeppocbcmeaaGreat
