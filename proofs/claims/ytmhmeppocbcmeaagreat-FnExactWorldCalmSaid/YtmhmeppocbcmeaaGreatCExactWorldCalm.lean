/- The law FnExactWorldCalm returns true at every input, and leaves its arguments as they were. No condition. -/
import Derived.Test.YtmhmeppocbcmeaaGreatM5
import Derived.Test.YtmhmeppocbcmeaaGreatRows
import Derived.WalkKit
import Derived.ProofKit
import Derived.OpenShut
import Derived.ShutString
import Derived.ChangeOld
import Derived.Below
import Derived.SizedLaws
import Derived.KernelRfl
/- FnExactWorldCalm: the program's WorldCalm returns what the reference's returns, shares no memory, and leaves its arguments as they are. -/
set_option linter.unusedVariables false
set_option linter.unusedSimpArgs false
namespace Go.Proofs.YtmhmeppocbcmeaaGreat
open Go Go.Wt
set_option maxHeartbeats 2000000 in
theorem FnExactWorldCalm_ct (w : Wrld) (ps : List Pay) : CtP Tryz.prog 5 [.v w, .v ps] (.v true) := by
  have hdo := sW_t (calm_t w ps)
  refine Ct.intro Tryz.func5 rfl rfl ?_
  all_goals refine aS (aR ?_)
  all_goals refine oC (op_box (o := 5) ty55 rfl (Conv.of rfl) rfl rfl) ?_
  all_goals refine oC (oA rfl (Conv.of rfl) rfl) ?_
  all_goals refine oN ?_
  all_goals refine aS (aR ?_)
  all_goals refine oC (oA rfl (Conv.of rfl) rfl) ?_
  all_goals refine oN ?_
  all_goals refine aS (aR ?_)
  all_goals refine oC (oD ty55 rfl rfl rfl) ?_
  all_goals refine oC (oM rfl (Conv.of rfl) rfl) ?_
  all_goals refine oC (oL fb23 (.cons rfl (Conv.of rfl) (.cons rfl (Conv.of rfl) (.nil _))) (szWorld_ct _ _ ⟨by omega, by omega⟩) (aK rfl rfl (aK rfl rfl aK0)) rfl rfl) ?_
  all_goals refine oC (oA rfl (Conv.of rfl) rfl) ?_
  all_goals refine oN ?_
  all_goals refine aS (aS (aR ?_))
  all_goals refine oC (oM rfl (Conv.of rfl) rfl) ?_
  all_goals refine oC (oLt rfl rfl rfl) ?_
  all_goals refine oN ?_
  refine aC rfl (fun h => ?_) (fun h => ?_)
  · all_goals refine aS (aR ?_)
    all_goals refine oC (oA rfl (Conv.of rfl) rfl) ?_
    all_goals refine oN ?_
    refine aT ?_
    repeat first | refine rS ?_ | refine rB ?_
    exact finP (.v rfl (Conv.of rfl)) rfl rfl
  have hz := szR_of h
  have hbw : BW w := bw_of (by omega)
  have hsw : sWd w ≤ 4 * 1048576 := sW_t (by omega)
  refine aW ?_
  all_goals refine aS (aR ?_)
  all_goals refine oC (oM rfl (Conv.of rfl) rfl) ?_
  all_goals refine oC (oM rfl (Conv.of rfl) rfl) ?_
  all_goals refine oC (oL fb24 (.cons rfl (Conv.of rfl) (.cons rfl (Conv.of rfl) (.nil _))) (szPayS_ct _ _ ⟨by omega, by omega⟩) (aK rfl rfl (aK rfl rfl aK0)) rfl rfl) ?_
  all_goals refine oC (oA rfl (Conv.of rfl) rfl) ?_
  all_goals refine oN ?_
  all_goals refine aS (aS (aR ?_))
  all_goals refine oC (oM rfl (Conv.of rfl) rfl) ?_
  all_goals refine oC (oLt rfl rfl rfl) ?_
  all_goals refine oN ?_
  refine aC rfl (fun h2 => ?_) (fun h2 => ?_)
  · all_goals refine aS (aR ?_)
    all_goals refine oC (oA rfl (Conv.of rfl) rfl) ?_
    all_goals refine oN ?_
    refine aT ?_
    repeat first | refine rS ?_ | refine rB ?_
    exact finP (.v rfl (Conv.of rfl)) rfl rfl
  have hz2 := szR_of h2
  have hpl : ps.length ≤ 1048576 := by omega
  have hsp : tS sP ps ≤ 3 * 1048576 := by have := tS_bound (t := sP) (c := 3) (l := ps) (fun x _ => Nat.le_refl _); omega
  refine aW ?_
  all_goals refine aS (aR ?_)
  all_goals refine oC (oD ty55 rfl rfl rfl) ?_
  all_goals refine oC (oL fb26 (.cons rfl (Conv.of rfl) (.nil _)) (toWorld_p _ hbw) (aK rfl rfl aK0) rfl rfl) ?_
  all_goals refine oC (oM rfl (Conv.of rfl) rfl) ?_
  all_goals refine oC (oL fb27 (.cons rfl (Conv.of rfl) (.nil _)) (toPayS_p _ hpl) (aK rfl rfl aK0) rfl rfl) ?_
  all_goals refine oC (oL fb25 (.cons rfl (Conv.of rfl) (.cons rfl (Conv.of rfl) (.nil _))) (sCalm_ct _ _) (aK rfl rfl (aK rfl rfl aK0)) rfl rfl) ?_
  all_goals refine oC (oX (o := 7) z26 rfl rfl) ?_
  all_goals refine oC (op_st ty26 rfl rfl (Conv.of rfl) rfl) ?_
  all_goals refine oN ?_
  all_goals refine aS (aR ?_)
  all_goals refine oC (oD ty55 rfl rfl rfl) ?_
  all_goals refine awpOps_deep (E := EWd) (dd := Wrld.d) 18 3 fb26 (.pl rfl .nil) deepW (toWorld_d w hbw) rfl rfl rfl rfl rfl (fun c0 => ?_)
  all_goals refine oC (oX (o := 8) z26_Rv3 rfl rfl) ?_
  all_goals refine oC (op_st ty26_Rv3 rfl rfl (Conv.of rfl) rfl) ?_
  all_goals refine oN ?_
  all_goals refine aS (aR ?_)
  all_goals refine oC (oM rfl (Conv.of rfl) rfl) ?_
  all_goals refine awpOps_deep (E := ES EP 3) (dd := fun l : List Pay => DList.mk (l.map fun x : Pay => x) true) 23 0 fb27 (.pl rfl .nil) (deepS deepP rfl) (toPayS_m ps hpl) rfl rfl rfl rfl rfl (fun c1 => ?_)
  all_goals refine oC (oA rfl (Conv.of rfl) rfl) ?_
  all_goals refine oN ?_
  all_goals refine aS (aR ?_)
  all_goals refine oC (oD ty26_Rv3 rfl rfl rfl) ?_
  all_goals refine oC (oM rfl (Conv.of rfl) rfl) ?_
  all_goals refine awpOps_deep (E := EWd) (dd := Wrld.d) 4 3 fb28 (.rv 18 rfl rfl rfl (.rv 23 rfl rfl rfl .nil)) deepW (worldCalm_d w ps) rfl rfl rfl rfl rfl (fun c2 => ?_)
  all_goals refine oC (oX (o := 10) z26_Rv3 rfl rfl) ?_
  all_goals refine oC (op_st ty26_Rv3 rfl rfl (Conv.of rfl) rfl) ?_
  all_goals refine oN ?_
  all_goals refine aS (aS (aR ?_))
  all_goals refine oC (oD ty26_Rv3 rfl rfl rfl) ?_
  all_goals refine oC (oD ty26 rfl rfl rfl) ?_
  all_goals refine oC (op_obsB fb18 (.rv 4 rfl rfl rfl (.pl rfl .nil)) (eqWorld_ct _ _) rfl) ?_
  all_goals refine oC (op_not rfl rfl) ?_
  all_goals refine oN ?_
  refine aC rfl (fun h3 => absurd h3 (by simp)) (fun h3 => ?_)
  refine aW ?_
  all_goals refine aS (aS (dS ?_))
  all_goals refine dC (oD ty26_Rv3 rfl rfl rfl) ?_
  all_goals refine dC (oD ty55 rfl rfl rfl) ?_
  all_goals refine dC (oL fb26 (.cons rfl (Conv.of rfl) (.nil _)) (toWorld_p _ hbw) (aK rfl rfl aK0) rfl rfl) ?_
  all_goals refine dC (op_obsB fb18 (.rv 18 rfl rfl rfl (.pl rfl .nil)) (eqWorld_ct _ _) rfl) ?_
  all_goals refine dC (op_not rfl rfl) ?_
  all_goals refine dr_nil mixed rfl ?_
  refine aC rfl (fun h4 => absurd h4 (by simp)) (fun h4 => ?_)
  refine aW ?_
  all_goals refine aS (aS (aR ?_))
  all_goals refine oC (oM rfl (Conv.of rfl) rfl) ?_
  all_goals refine oC (oM rfl (Conv.of rfl) rfl) ?_
  all_goals refine oC (oL fb27 (.cons rfl (Conv.of rfl) (.nil _)) (toPayS_p _ hpl) (aK rfl rfl aK0) rfl rfl) ?_
  all_goals refine oC (op_obsB fb29 (.rv 23 rfl rfl rfl (.pl rfl .nil)) (eqPayS_ct _ _) rfl) ?_
  all_goals refine oC (op_not rfl rfl) ?_
  all_goals refine oN ?_
  refine aC rfl (fun h5 => absurd h5 (by simp)) (fun h5 => ?_)
  refine aW ?_
  all_goals refine aS (aR ?_)
  all_goals refine oC (oA rfl (Conv.of rfl) rfl) ?_
  all_goals refine oN ?_
  all_goals refine aS (aR ?_)
  all_goals refine oC (oD ty26_Rv3 rfl rfl rfl) ?_
  all_goals refine oC (oM rfl (Conv.of rfl) rfl) ?_
  all_goals refine oC (op_mark (q := 18) (E := EWd) (y0 := w) (y1 := fWd w 1) fb21 rfl rfl rfl rfl (markWorld_x _ _ _ ⟨by omega, by omega⟩) rfl) ?_
  all_goals refine oC (oA rfl (Conv.of rfl) rfl) ?_
  all_goals refine oN ?_
  all_goals refine aS (aR ?_)
  all_goals refine oC (oM rfl (Conv.of rfl) rfl) ?_
  all_goals refine oC (oM rfl (Conv.of rfl) rfl) ?_
  all_goals refine oC (op_mark (q := 23) (E := ES EP 3) (y0 := ps) (y1 := mkL fP sP ps (1 + (sWd w : Int))) fb30 rfl rfl rfl rfl (markPayS_x _ _ _ ⟨by omega, by omega⟩) rfl) ?_
  all_goals refine oC (oA rfl (Conv.of rfl) rfl) ?_
  all_goals refine oN ?_
  refine aS (aST (s' := mkSt 92 [(2, .box 5 (IsLens.whole Wrld)), (1, .v ps), (6, .box 7 (IsLens.whole Wrld)), (9, .box 10 (IsLens.whole (Rv 3))), (4, .v (Rm.mk (E := EWd) c2 (worldCalmR w ps) true)), (63, .v false)] [(5, .cell w), (7, .cell (worldCalmR w ps)), (10, .cell (Rv.mk (n := 3) c2))]) ?_ ?_)
  · all_goals refine aR ?_
    all_goals refine oC (oM rfl (Conv.of rfl) rfl) ?_
    all_goals refine oC (oLt rfl rfl rfl) ?_
    all_goals refine oC (oM rfl (Conv.of rfl) rfl) ?_
    all_goals refine g_lit (t := 58) (b := false) rfl ?_
    all_goals refine oC (gN rfl rfl rfl (oD ty26_Rv3 rfl rfl rfl)) ?_
    all_goals refine oC (gN rfl rfl rfl (oD ty26 rfl rfl rfl)) ?_
    all_goals refine oC (gN rfl rfl rfl (op_obsB fb18 (.rv 4 rfl rfl rfl (.pl rfl .nil)) (eqWorld_ct _ _) rfl)) ?_
    all_goals refine oC (gN rfl rfl rfl (op_not rfl rfl)) ?_
    all_goals refine oC (oQ rfl rfl rfl rfl) ?_
    all_goals refine oN ?_
    all_goals exact Le.mk rfl (tlb rfl rfl rfl (tle rfl (rfl) rfl (tlb rfl rfl rfl (tlb rfl rfl rfl (tle rfl (rfl) rfl (tle rfl (by (show AV.v _ = AV.v _; simp_all; try omega)) rfl tln)))))) (olk rfl (by exact obOkDc _) (olk rfl (by exact obOkDc _) (olk rfl (by exact obOkDc _) oln))) noS
  refine aC rfl (fun h6 => absurd h6 (by simp)) (fun h6 => ?_)
  refine aW ?_
  all_goals refine aS (aR ?_)
  all_goals refine oC (oA rfl (Conv.of rfl) rfl) ?_
  all_goals refine oN ?_
  all_goals refine aS (aR ?_)
  all_goals refine oC (oD ty26_Rv3 rfl rfl rfl) ?_
  all_goals refine oC (oM rfl (Conv.of rfl) rfl) ?_
  all_goals refine oC (op_mark (q := 4) (E := EWd) (y0 := worldCalmR w ps) (y1 := fWd (worldCalmR w ps) 1) fb21 rfl rfl rfl rfl (markWorld_x _ _ _ ⟨by omega, by omega⟩) rfl) ?_
  all_goals refine oC (oA rfl (Conv.of rfl) rfl) ?_
  all_goals refine oN ?_
  all_goals refine aS (aR ?_)
  all_goals refine oC (oA rfl (Conv.of rfl) rfl) ?_
  all_goals refine oN ?_
  all_goals refine aS (aR ?_)
  all_goals refine oC (oD ty26_Rv3 rfl rfl rfl) ?_
  all_goals refine oC (oM rfl (Conv.of rfl) rfl) ?_
  all_goals refine oC (op_obsI fb22 (.rv 4 rfl rfl rfl (.pl rfl .nil)) (heldWorld_ct (worldCalmR w ps) 1 ⟨by omega, by omega⟩) rfl) ?_
  all_goals refine oC (oA rfl (Conv.of rfl) rfl) ?_
  all_goals refine oN ?_
  all_goals refine aS (aS (aR ?_))
  all_goals refine oC (oM rfl (Conv.of rfl) rfl) ?_
  all_goals refine oC (oLt rfl rfl rfl) ?_
  all_goals refine oN ?_
  refine aC rfl (fun h7 => absurd h7 (by simp; omega)) (fun h7 => ?_)
  refine aW ?_
  all_goals refine aS (aS (aR ?_))
  all_goals refine oC (oM rfl (Conv.of rfl) rfl) ?_
  all_goals refine oC (oM rfl (Conv.of rfl) rfl) ?_
  all_goals refine oC (op_neq rfl rfl rfl) ?_
  all_goals refine oN ?_
  refine aC rfl (fun h8 => absurd h8 (by simp)) (fun h8 => ?_)
  refine aW ?_
  all_goals refine aS (aR ?_)
  all_goals refine oC (oD ty55 rfl rfl rfl) ?_
  all_goals refine oC (oL fb26 (.cons rfl (Conv.of rfl) (.nil _)) (toWorld_p _ hbw) (aK rfl rfl aK0) rfl rfl) ?_
  all_goals refine oC (oM rfl (Conv.of rfl) rfl) ?_
  all_goals refine oC (oL fb27 (.cons rfl (Conv.of rfl) (.nil _)) (toPayS_p _ hpl) (aK rfl rfl aK0) rfl rfl) ?_
  all_goals refine oC (oL fb28 (.cons rfl (Conv.of rfl) (.cons rfl (Conv.of rfl) (.nil _))) (worldCalm_ct _ _) (aK rfl rfl (aK rfl rfl aK0)) rfl rfl) ?_
  all_goals refine oC (oX (o := 11) z26 rfl rfl) ?_
  all_goals refine oC (op_st ty26 rfl rfl (Conv.of rfl) rfl) ?_
  all_goals refine oN ?_
  all_goals refine aS (aS (aR ?_))
  all_goals refine oC (oD ty26 rfl rfl rfl) ?_
  all_goals refine oC (oD ty26 rfl rfl rfl) ?_
  all_goals refine oC (oL fb18 (.cons rfl (Conv.of rfl) (.cons rfl (Conv.of rfl) (.nil _))) (eqWorld_ct _ _) (aK rfl rfl (aK rfl rfl aK0)) rfl rfl) ?_
  all_goals refine oC (op_not rfl rfl) ?_
  all_goals refine oN ?_
  refine aC rfl (fun h9 => absurd h9 (by simp)) (fun h9 => ?_)
  refine aW ?_
  all_goals refine aS (aR ?_)
  all_goals refine oC (oA rfl (Conv.of rfl) rfl) ?_
  all_goals refine oN ?_
  all_goals refine aS (aR ?_)
  all_goals refine oC (oD ty26_Rv3 rfl rfl rfl) ?_
  all_goals refine oC (oM rfl (Conv.of rfl) rfl) ?_
  all_goals refine oC (op_obsI fb22 (.rv 4 rfl rfl rfl (.pl rfl .nil)) (heldWorld_ct (worldCalmR w ps) 1 ⟨by omega, by omega⟩) rfl) ?_
  all_goals refine oC (oA rfl (Conv.of rfl) rfl) ?_
  all_goals refine oN ?_
  all_goals refine aS (aS (aR ?_))
  all_goals refine oC (oM rfl (Conv.of rfl) rfl) ?_
  all_goals refine oC (oLt rfl rfl rfl) ?_
  all_goals refine oN ?_
  refine aC rfl (fun h10 => absurd h10 (by simp; omega)) (fun h10 => ?_)
  refine aW ?_
  all_goals refine aS (aS (aR ?_))
  all_goals refine oC (oM rfl (Conv.of rfl) rfl) ?_
  all_goals refine oC (oM rfl (Conv.of rfl) rfl) ?_
  all_goals refine oC (op_neq rfl rfl rfl) ?_
  all_goals refine oN ?_
  refine aC rfl (fun h11 => absurd h11 (by simp)) (fun h11 => ?_)
  refine aW ?_
  all_goals refine aS (aR ?_)
  all_goals refine oC (oA rfl (Conv.of rfl) rfl) ?_
  all_goals refine oN ?_
  refine aT ?_
  repeat first | refine rS ?_ | refine rB ?_
  exact finP (.v rfl (Conv.of rfl)) rfl rfl
end Go.Proofs.YtmhmeppocbcmeaaGreat

/- The law FnExactWorldCalm returns true at every input, and leaves its arguments as they were. No condition. -/
set_option linter.unusedVariables false
namespace Go.Proofs.YtmhmeppocbcmeaaGreat.fnExactWorldCalm
open Go Go.ChangeShapes Go.WideShapes Go.ChangeAt Go.RowKit
theorem own : ownKnob Tryz.prog.godebug = none := by kernel_rfl
theorem laidOut : laidOutB Tryz.prog = true := by kernel_rfl
set_option maxRecDepth 100000 in
theorem lifted (os : Os) (started : os.Started) (H : Type) (enc : TypeId × Value → H) :
    ReturnsInHanded {} Tryz.checked os 5 .any (Rows.fnExactWorldCalmSpec.pre6 enc Tryz.prog Tryz.f5 Rows.fnExactWorldCalmRow.domain false) (Rows.fnExactWorldCalmSpec.post enc Tryz.prog Tryz.f5 false true false false) := by
  refine returnsInHanded_of_change_sized (C := Tryz.checked) own started (by kernel_rfl) Tryz.func5
    (ChangeSpec.witness6 (enc := enc) (C := Tryz.checked) false ⟨#[], #[.agg #[.int .i64 0, .slice none 0 0, .slice none 0 0, .int .i64 0], .slice none 0 0], []⟩ 8 (by kernel_rfl) (by kernel_rfl) (by kernel_rfl) (by kernel_rfl)) ?_
  intro W base args ds gs before hval0 hW hcnd hsz0 _
  have hsz : (DataW.weightsEach Tryz.prog (Tryz.f5.params.toList ++ Rows.fnExactWorldCalmSpec.plain.varTypes Tryz.prog) (ds ++ gs)).all (· ≤ reachBytes) = true := hsz0
  have hval : ∀ (j : Nat) t v, Tryz.f5.params[j]? = some t → args[j]? = some v → Value.okWide Tryz.prog W .any base t v := hval0
  have hW' := hW
  obtain ⟨p, q, hA0, hV, rfl, hfz, hnd⟩ := hW
  have hA : DataW.TrodAll enc Tryz.prog W 0 (fun _ => true) true Tryz.f5.params.toList args.toList ds p := hA0
  rw [Tryz.params5] at hA hval hsz
  obtain ⟨v0, vs0, d0, ds0, p0, q0, hargs, rfl, rfl, h0, r0⟩ := trodAll_cons hA
  obtain ⟨v1, vs1, d1, ds1, p1, q1, rfl, rfl, rfl, h1, r1⟩ := trodAll_cons r0
  obtain ⟨rfl, rfl, rfl⟩ := trodAll_nil r1
  obtain rfl : args = #[v0, v1] := by cases args; simp_all
  obtain ⟨rfl, rfl⟩ := trodVars_none hV
  obtain ⟨c0, rfl⟩ := Go.Wt.okWide_agg Tryz.underlying55 (hval 0 55 v0 rfl rfl)
  have k0 := h0
  have lt0 : ∀ x ∈ p0, x.block < W.heap.size := by obtain ⟨m, hm⟩ := k0; exact DataW.trod_lt m _ _ _ hm
  have y0 := Go.Wt.arg_of (j := 0) (t := 55) trWorld h0 hsz rfl rfl (Go.Wt.val_agg rfl)
  obtain ⟨a1, len1, cap1, rfl⟩ := okWide_slice Tryz.underlying56 (hval 1 56 v1 rfl rfl)
  have k1 := h1
  have lt1 : ∀ x ∈ p1, x.block < W.heap.size := by obtain ⟨m, hm⟩ := k1; exact DataW.trod_lt m _ _ _ hm
  have y1 := Go.Wt.arg_of (j := 1) (t := 56) trPayS h1 hsz rfl rfl Go.Wt.val_slice
  clear hA0 hval0 hsz0 hsz
  refine (Go.Wt.row_two FnExactWorldCalm_ct y0 y1).mono fun e W' ⟨he, bel⟩ => ?_
  subst he
  exact ⟨_, rfl, _, _, _, [], _, [], hW', trodAll_mk1 (shut_bool Tryz.underlying4 _), (trodAll_cons_mk (Below.trod laidOut (by kernel_rfl) (of_decide_eq_true (by kernel_rfl)) k0 bel lt0) (trodAll_cons_mk (Below.trod laidOut (by kernel_rfl) (of_decide_eq_true (by kernel_rfl)) k1 bel lt1) trodAll_mk0)), rfl, bel.frame _, fun h => by cases h⟩
theorem over : Rows.fnExactWorldCalmRow.holds Tryz.pinned (OpenSpec.ofChange Rows.fnExactWorldCalmSpec) :=
  OpenClaim.holds_of_wide 5 Tryz.f5 rfl rfl rfl rfl rfl rfl rfl ⟨rfl, rfl, rfl, rfl, rfl⟩ rfl rfl rfl rfl rfl (by kernel_rfl) Tryz.func5 (by kernel_rfl)
    (of_decide_eq_true (by kernel_rfl)) (by unfold Func.isWrapper; first | (rw [if_pos (by decide +kernel)]; kernel_rfl) | (rw [if_neg (by decide +kernel)]; exact ⟨rfl, rfl⟩))
    (fun os started H enc _ => lifted os started H enc)
end Go.Proofs.YtmhmeppocbcmeaaGreat.fnExactWorldCalm
namespace Go.Proofs.YtmhmeppocbcmeaaGreat
theorem fnExactWorldCalm_holds : Rows.FnExactWorldCalmSaid := fnExactWorldCalm.over
#print axioms fnExactWorldCalm_holds
end Go.Proofs.YtmhmeppocbcmeaaGreat
