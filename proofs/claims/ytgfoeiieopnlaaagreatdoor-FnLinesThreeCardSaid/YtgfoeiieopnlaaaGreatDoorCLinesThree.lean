/- The law FnLinesThree returns true at every input, and leaves its arguments as they were; the listed tables of the library are tied to the text. No other condition. -/
import Derived.Test.YtgfoeiieopnlaaaGreatDoorM5
import Derived.Test.YtgfoeiieopnlaaaGreatDoorRows
import Derived.Test.YtgfoeiieopnlaaaGreatDoorCards
import Derived.Test.YtgfoeiieopnlaaaGreatDoorTie
import Derived.WalkKit
import Derived.ProofKit
import Derived.OpenShut
import Derived.ShutString
import Derived.ChangeOld
import Derived.ChangeMaps5
import Derived.Below
import Derived.SizedLaws
import Derived.KernelRfl
import Derived.LaidMore
import Derived.Lay
import Derived.SevenTiedAt
import Derived.Stop.Joined
/- Three of four are enough. -/
set_option linter.unusedVariables false
set_option linter.unusedSimpArgs false
namespace Go.Proofs.YtgfoeiieopnlaaaGreatDoor
open Go Go.Wt
set_option maxHeartbeats 4000000 in
theorem FnLinesThree_ct (code more : List UInt8) : CtP Tryz.prog 4 [.v code, .v more] (.v true) := by
  refine Ct.intro Tryz.func4 rfl rfl ?_
  refine awp_bigL 1 rfl (fun hmore => ?_)
  all_goals refine aS (aR ?_)
  all_goals refine oC (oA rfl (Conv.of rfl) rfl) ?_
  all_goals refine oN ?_
  refine aS (aST (s' := mkSt 86 [(0, .v code), (1, .v more), (18, .v (decide ((code.length : Int) > 1048576) || decide ((more.length : Int) > 1048576)))] []) ?_ ?_)
  · all_goals refine aR ?_
    all_goals refine oC (oM rfl (Conv.of rfl) rfl) ?_
    all_goals refine oC (oE sl22 rfl rfl) ?_
    all_goals refine oC (op_gtr rfl rfl rfl) ?_
    all_goals refine oC (oM rfl (Conv.of rfl) rfl) ?_
    all_goals refine g_split (t := 14) rfl (fun h => ?_) (fun h => ?_)
    all_goals first | refine oC (gF rfl rfl rfl rfl rfl) ?_ | refine oC (gN rfl rfl rfl (oM rfl (Conv.of rfl) rfl)) ?_
    all_goals first | refine oC (gF rfl rfl rfl rfl rfl) ?_ | refine oC (gN rfl rfl rfl (oE sl22 rfl rfl)) ?_
    all_goals first | refine oC (gF rfl rfl rfl rfl rfl) ?_ | refine oC (gN rfl rfl rfl (op_gtr rfl rfl rfl)) ?_
    all_goals refine oC (oQ rfl rfl rfl rfl) ?_
    all_goals refine oN ?_
    all_goals exact Le.mk rfl (tle rfl (rfl) rfl (tle rfl (rfl) rfl (tle rfl (by (simp_all; try omega)) rfl tln))) oln noS
  refine aC rfl (fun h => ?_) (fun h => ?_)
  · all_goals refine aS (aR ?_)
    all_goals refine oC (oA rfl (Conv.of rfl) rfl) ?_
    all_goals refine oN ?_
    refine aT ?_
    repeat first | refine rS ?_ | refine rB ?_
    exact finP (.v rfl (Conv.of rfl)) rfl rfl
  refine aW ?_
  all_goals refine aS (aR ?_)
  all_goals refine oC (oM rfl (Conv.of rfl) rfl) ?_
  refine awpOps_callE (ι := Int × List UInt8) [] (fun i => .tup [.v i.1, .v (bs i.2)]) (fun i => []) (fun i => TextOk i.2 ∧ i.2.length ≤ 10000) rfl fb14 (.cons rfl (Conv.of rfl) (.nil _)) (drawLines_ct code) (fun r h' ⟨v, t, e1, e2, e3, e4⟩ => ⟨(v, t), e1, e2, e3, e4⟩) ols0 k0 (argOk' rfl rfl argO0) rfl (fun i => rfl) (fun i => k0) (fun i o ho => by cases ho) ?_
  rintro ⟨bad, text⟩ ⟨ht, hlen⟩
  simp only at ht hlen ⊢
  all_goals refine oC (oM rfl (Conv.of rfl) rfl) ?_
  all_goals refine oC (op_ext rfl rfl rfl) ?_
  all_goals refine oC (op_ext rfl rfl rfl) ?_
  all_goals refine oC (oA rfl (Conv.of rfl) rfl) ?_
  all_goals refine oC (oA rfl (Conv.of rfl) rfl) ?_
  all_goals refine oN ?_
  all_goals refine aS (aR ?_)
  all_goals refine oC (oM rfl (Conv.of rfl) rfl) ?_
  all_goals refine oC (oM rfl (Conv.of rfl) rfl) ?_
  all_goals refine oC (oL fb15 (.cons rfl (Conv.of rfl) (.cons rfl (Conv.of rfl) (.nil _))) (iLinesRun_ct bad text) (aK rfl rfl (aK rfl rfl aK0)) rfl rfl) ?_
  all_goals refine oC (oA rfl (Conv.of rfl) rfl) ?_
  all_goals refine oN ?_
  all_goals refine aS (aS (aR ?_))
  all_goals refine oC (oM rfl (Conv.of rfl) rfl) ?_
  all_goals refine oC (oM rfl (Conv.of rfl) rfl) ?_
  all_goals refine oC (oM rfl (Conv.of rfl) rfl) ?_
  all_goals refine oC (oL fb16 (.cons rfl (Conv.of rfl) (.cons rfl (Conv.of rfl) (.nil _))) (sLinesRun_ct bad text) (aK rfl rfl (aK rfl rfl aK0)) rfl rfl) ?_
  all_goals refine oC (op_neqs rfl rfl rfl) ?_
  all_goals refine oN ?_
  refine aC rfl (fun h => ?_) (fun h => ?_)
  · exact absurd h (ne_self _)
  refine aW ?_
  have hm : 0 ≤ (more.length : Int).tmod 4 ∧ (more.length : Int).tmod 4 < 4 := tmod_bd (show (0 : Int) ≤ (more.length : Int) by omega) (show (0 : Int) < 4 by decide)
  have h4 : (more.length : Int).tmod 4 = 0 ∨ (more.length : Int).tmod 4 = 1 ∨ (more.length : Int).tmod 4 = 2 ∨ (more.length : Int).tmod 4 = 3 := by omega
  rcases h4 with h4 | h4 | h4 | h4
  · refine aST (s' := mkSt 86 [(8, .v (1 : Int))] []) ?_ ?_
    · all_goals refine aR ?_
      all_goals refine oC (oM rfl (Conv.of rfl) rfl) ?_
      all_goals refine oC (oE sl22 rfl rfl) ?_
      all_goals refine oC (op_rem rfl rfl rfl (by decide)) ?_
      all_goals refine oC (oP rfl rfl rfl (by omega)) ?_
      all_goals refine oC (oA rfl (Conv.of rfl) rfl) ?_
      all_goals refine oN ?_
      all_goals exact Le.mk rfl (tle rfl (by (rw [h4]; rfl)) rfl tln) oln noS
    all_goals refine aS (aR ?_)
    all_goals refine oC (oM rfl (Conv.of rfl) rfl) ?_
    all_goals refine oC (oL fb15 (.cons rfl (Conv.of rfl) (.cons rfl (Conv.of rfl) (.nil _))) (lit_ct sc_three1) (aK rfl rfl (aK rfl rfl aK0)) rfl rfl) ?_
    all_goals refine oC (oA rfl (Conv.of rfl) rfl) ?_
    all_goals refine oN ?_
    all_goals refine aS (aR ?_)
    all_goals refine oC (oM rfl (Conv.of rfl) rfl) ?_
    all_goals refine oC (op_lens un9 rfl rfl) ?_
    all_goals refine oC (op_quo rfl rfl rfl (by decide)) ?_
    all_goals refine oC (oA rfl (Conv.of rfl) rfl) ?_
    all_goals refine oN ?_
    all_goals refine aS (aS (dS ?_))
    all_goals refine dC (oM rfl (Conv.of rfl) rfl) ?_
    all_goals refine dC (op_lens un9 rfl rfl) ?_
    all_goals refine dC (oM rfl (Conv.of rfl) rfl) ?_
    all_goals refine dC (op_mul rfl rfl rfl (by decide)) ?_
    all_goals refine dC (op_neq rfl rfl rfl) ?_
    all_goals refine dC (oM rfl (Conv.of rfl) rfl) ?_
    all_goals refine dr_lit (t := 46) (b := false) rfl ?_
    all_goals refine dC (gN rfl rfl rfl (oM rfl (Conv.of rfl) rfl)) ?_
    all_goals refine dC (gN rfl rfl rfl (oLt rfl rfl rfl)) ?_
    all_goals refine dC (oQ rfl rfl rfl rfl) ?_
    all_goals refine dC (oM rfl (Conv.of rfl) rfl) ?_
    all_goals refine dr_lit (t := 50) (b := false) rfl ?_
    all_goals refine dC (gN rfl rfl rfl (oM rfl (Conv.of rfl) rfl)) ?_
    all_goals refine dC (gN rfl rfl rfl (oM rfl (Conv.of rfl) rfl)) ?_
    all_goals refine dC (gN rfl rfl rfl (op_slslh un9 rfl rfl rfl rfl (by decide))) ?_
    all_goals refine dC (gN rfl rfl rfl (oM rfl (Conv.of rfl) rfl)) ?_
    all_goals refine dC (gN rfl rfl rfl (oM rfl (Conv.of rfl) rfl)) ?_
    all_goals refine dC (gN rfl rfl rfl (oP rfl rfl rfl (by decide))) ?_
    all_goals refine dC (gN rfl rfl rfl (oM rfl (Conv.of rfl) rfl)) ?_
    all_goals refine dC (gN rfl rfl rfl (op_mul rfl rfl rfl (by decide))) ?_
    all_goals refine dC (gN rfl rfl rfl (op_slslh un9 rfl rfl rfl rfl (by decide))) ?_
    all_goals refine dC (gN rfl rfl rfl (op_neqs rfl rfl rfl)) ?_
    all_goals refine dC (oQ rfl rfl rfl rfl) ?_
    all_goals refine dC (oM rfl (Conv.of rfl) rfl) ?_
    all_goals refine dr_lit (t := 62) (b := false) rfl ?_
    all_goals refine dC (gN rfl rfl rfl (oM rfl (Conv.of rfl) rfl)) ?_
    all_goals refine dC (gN rfl rfl rfl (oM rfl (Conv.of rfl) rfl)) ?_
    all_goals refine dC (gN rfl rfl rfl (op_slslh un9 rfl rfl rfl rfl (by decide))) ?_
    all_goals refine dC (gN rfl rfl rfl (oM rfl (Conv.of rfl) rfl)) ?_
    all_goals refine dC (gN rfl rfl rfl (oM rfl (Conv.of rfl) rfl)) ?_
    all_goals refine dC (gN rfl rfl rfl (op_mul rfl rfl rfl (by decide))) ?_
    all_goals refine dC (gN rfl rfl rfl (oP rfl rfl rfl (by decide))) ?_
    all_goals refine dC (gN rfl rfl rfl (op_slsl un9 rfl rfl rfl (by decide))) ?_
    all_goals refine dC (gN rfl rfl rfl (op_neqs rfl rfl rfl)) ?_
    all_goals refine dC (oQ rfl rfl rfl rfl) ?_
    all_goals refine dr_nil mixed rfl ?_
    refine aC rfl (fun h => absurd h (by decide)) (fun h => ?_)
    refine aW ?_
    all_goals refine aS (aR ?_)
    all_goals refine oC (oM rfl (Conv.of rfl) rfl) ?_
    all_goals refine oC (op_slslh un9 rfl rfl rfl rfl (by decide)) ?_
    all_goals refine oC (op_eqls rfl rfl rfl) ?_
    all_goals refine oC (oM rfl (Conv.of rfl) rfl) ?_
    all_goals refine g_lit (t := 76) (b := true) rfl ?_
    all_goals refine oC (gN rfl rfl rfl (oM rfl (Conv.of rfl) rfl)) ?_
    all_goals refine oC (gN rfl rfl rfl (op_idxs un9 rfl rfl rfl (by decide) (show _ = some (53 : UInt8) from rfl))) ?_
    all_goals refine oC (gN rfl rfl rfl (op_geq8 rfl rfl rfl)) ?_
    all_goals refine oC (oQ rfl rfl rfl rfl) ?_
    all_goals refine oC (oM rfl (Conv.of rfl) rfl) ?_
    all_goals refine g_lit (t := 81) (b := true) rfl ?_
    all_goals refine oC (gN rfl rfl rfl (oM rfl (Conv.of rfl) rfl)) ?_
    all_goals refine oC (gN rfl rfl rfl (op_idxs un9 rfl rfl rfl (by decide) (show _ = some (53 : UInt8) from rfl))) ?_
    all_goals refine oC (gN rfl rfl rfl (op_leq8 rfl rfl rfl)) ?_
    all_goals refine oC (oQ rfl rfl rfl rfl) ?_
    all_goals refine oC (oA rfl (Conv.of rfl) rfl) ?_
    all_goals refine oN ?_
    refine aT ?_
    repeat first | refine rS ?_ | refine rB ?_
    exact finP (.v rfl (Conv.of rfl)) rfl rfl
  · refine aST (s' := mkSt 86 [(8, .v (2 : Int))] []) ?_ ?_
    · all_goals refine aR ?_
      all_goals refine oC (oM rfl (Conv.of rfl) rfl) ?_
      all_goals refine oC (oE sl22 rfl rfl) ?_
      all_goals refine oC (op_rem rfl rfl rfl (by decide)) ?_
      all_goals refine oC (oP rfl rfl rfl (by omega)) ?_
      all_goals refine oC (oA rfl (Conv.of rfl) rfl) ?_
      all_goals refine oN ?_
      all_goals exact Le.mk rfl (tle rfl (by (rw [h4]; rfl)) rfl tln) oln noS
    all_goals refine aS (aR ?_)
    all_goals refine oC (oM rfl (Conv.of rfl) rfl) ?_
    all_goals refine oC (oL fb15 (.cons rfl (Conv.of rfl) (.cons rfl (Conv.of rfl) (.nil _))) (lit_ct sc_three2) (aK rfl rfl (aK rfl rfl aK0)) rfl rfl) ?_
    all_goals refine oC (oA rfl (Conv.of rfl) rfl) ?_
    all_goals refine oN ?_
    all_goals refine aS (aR ?_)
    all_goals refine oC (oM rfl (Conv.of rfl) rfl) ?_
    all_goals refine oC (op_lens un9 rfl rfl) ?_
    all_goals refine oC (op_quo rfl rfl rfl (by decide)) ?_
    all_goals refine oC (oA rfl (Conv.of rfl) rfl) ?_
    all_goals refine oN ?_
    all_goals refine aS (aS (dS ?_))
    all_goals refine dC (oM rfl (Conv.of rfl) rfl) ?_
    all_goals refine dC (op_lens un9 rfl rfl) ?_
    all_goals refine dC (oM rfl (Conv.of rfl) rfl) ?_
    all_goals refine dC (op_mul rfl rfl rfl (by decide)) ?_
    all_goals refine dC (op_neq rfl rfl rfl) ?_
    all_goals refine dC (oM rfl (Conv.of rfl) rfl) ?_
    all_goals refine dr_lit (t := 46) (b := false) rfl ?_
    all_goals refine dC (gN rfl rfl rfl (oM rfl (Conv.of rfl) rfl)) ?_
    all_goals refine dC (gN rfl rfl rfl (oLt rfl rfl rfl)) ?_
    all_goals refine dC (oQ rfl rfl rfl rfl) ?_
    all_goals refine dC (oM rfl (Conv.of rfl) rfl) ?_
    all_goals refine dr_lit (t := 50) (b := false) rfl ?_
    all_goals refine dC (gN rfl rfl rfl (oM rfl (Conv.of rfl) rfl)) ?_
    all_goals refine dC (gN rfl rfl rfl (oM rfl (Conv.of rfl) rfl)) ?_
    all_goals refine dC (gN rfl rfl rfl (op_slslh un9 rfl rfl rfl rfl (by decide))) ?_
    all_goals refine dC (gN rfl rfl rfl (oM rfl (Conv.of rfl) rfl)) ?_
    all_goals refine dC (gN rfl rfl rfl (oM rfl (Conv.of rfl) rfl)) ?_
    all_goals refine dC (gN rfl rfl rfl (oP rfl rfl rfl (by decide))) ?_
    all_goals refine dC (gN rfl rfl rfl (oM rfl (Conv.of rfl) rfl)) ?_
    all_goals refine dC (gN rfl rfl rfl (op_mul rfl rfl rfl (by decide))) ?_
    all_goals refine dC (gN rfl rfl rfl (op_slslh un9 rfl rfl rfl rfl (by decide))) ?_
    all_goals refine dC (gN rfl rfl rfl (op_neqs rfl rfl rfl)) ?_
    all_goals refine dC (oQ rfl rfl rfl rfl) ?_
    all_goals refine dC (oM rfl (Conv.of rfl) rfl) ?_
    all_goals refine dr_lit (t := 62) (b := false) rfl ?_
    all_goals refine dC (gN rfl rfl rfl (oM rfl (Conv.of rfl) rfl)) ?_
    all_goals refine dC (gN rfl rfl rfl (oM rfl (Conv.of rfl) rfl)) ?_
    all_goals refine dC (gN rfl rfl rfl (op_slslh un9 rfl rfl rfl rfl (by decide))) ?_
    all_goals refine dC (gN rfl rfl rfl (oM rfl (Conv.of rfl) rfl)) ?_
    all_goals refine dC (gN rfl rfl rfl (oM rfl (Conv.of rfl) rfl)) ?_
    all_goals refine dC (gN rfl rfl rfl (op_mul rfl rfl rfl (by decide))) ?_
    all_goals refine dC (gN rfl rfl rfl (oP rfl rfl rfl (by decide))) ?_
    all_goals refine dC (gN rfl rfl rfl (op_slsl un9 rfl rfl rfl (by decide))) ?_
    all_goals refine dC (gN rfl rfl rfl (op_neqs rfl rfl rfl)) ?_
    all_goals refine dC (oQ rfl rfl rfl rfl) ?_
    all_goals refine dr_nil mixed rfl ?_
    refine aC rfl (fun h => absurd h (by decide)) (fun h => ?_)
    refine aW ?_
    all_goals refine aS (aR ?_)
    all_goals refine oC (oM rfl (Conv.of rfl) rfl) ?_
    all_goals refine oC (op_slslh un9 rfl rfl rfl rfl (by decide)) ?_
    all_goals refine oC (op_eqls rfl rfl rfl) ?_
    all_goals refine oC (oM rfl (Conv.of rfl) rfl) ?_
    all_goals refine g_lit (t := 76) (b := true) rfl ?_
    all_goals refine oC (gN rfl rfl rfl (oM rfl (Conv.of rfl) rfl)) ?_
    all_goals refine oC (gN rfl rfl rfl (op_idxs un9 rfl rfl rfl (by decide) (show _ = some (51 : UInt8) from rfl))) ?_
    all_goals refine oC (gN rfl rfl rfl (op_geq8 rfl rfl rfl)) ?_
    all_goals refine oC (oQ rfl rfl rfl rfl) ?_
    all_goals refine oC (oM rfl (Conv.of rfl) rfl) ?_
    all_goals refine g_lit (t := 81) (b := true) rfl ?_
    all_goals refine oC (gN rfl rfl rfl (oM rfl (Conv.of rfl) rfl)) ?_
    all_goals refine oC (gN rfl rfl rfl (op_idxs un9 rfl rfl rfl (by decide) (show _ = some (51 : UInt8) from rfl))) ?_
    all_goals refine oC (gN rfl rfl rfl (op_leq8 rfl rfl rfl)) ?_
    all_goals refine oC (oQ rfl rfl rfl rfl) ?_
    all_goals refine oC (oA rfl (Conv.of rfl) rfl) ?_
    all_goals refine oN ?_
    refine aT ?_
    repeat first | refine rS ?_ | refine rB ?_
    exact finP (.v rfl (Conv.of rfl)) rfl rfl
  · refine aST (s' := mkSt 86 [(8, .v (3 : Int))] []) ?_ ?_
    · all_goals refine aR ?_
      all_goals refine oC (oM rfl (Conv.of rfl) rfl) ?_
      all_goals refine oC (oE sl22 rfl rfl) ?_
      all_goals refine oC (op_rem rfl rfl rfl (by decide)) ?_
      all_goals refine oC (oP rfl rfl rfl (by omega)) ?_
      all_goals refine oC (oA rfl (Conv.of rfl) rfl) ?_
      all_goals refine oN ?_
      all_goals exact Le.mk rfl (tle rfl (by (rw [h4]; rfl)) rfl tln) oln noS
    all_goals refine aS (aR ?_)
    all_goals refine oC (oM rfl (Conv.of rfl) rfl) ?_
    all_goals refine oC (oL fb15 (.cons rfl (Conv.of rfl) (.cons rfl (Conv.of rfl) (.nil _))) (lit_ct sc_three3) (aK rfl rfl (aK rfl rfl aK0)) rfl rfl) ?_
    all_goals refine oC (oA rfl (Conv.of rfl) rfl) ?_
    all_goals refine oN ?_
    all_goals refine aS (aR ?_)
    all_goals refine oC (oM rfl (Conv.of rfl) rfl) ?_
    all_goals refine oC (op_lens un9 rfl rfl) ?_
    all_goals refine oC (op_quo rfl rfl rfl (by decide)) ?_
    all_goals refine oC (oA rfl (Conv.of rfl) rfl) ?_
    all_goals refine oN ?_
    all_goals refine aS (aS (dS ?_))
    all_goals refine dC (oM rfl (Conv.of rfl) rfl) ?_
    all_goals refine dC (op_lens un9 rfl rfl) ?_
    all_goals refine dC (oM rfl (Conv.of rfl) rfl) ?_
    all_goals refine dC (op_mul rfl rfl rfl (by decide)) ?_
    all_goals refine dC (op_neq rfl rfl rfl) ?_
    all_goals refine dC (oM rfl (Conv.of rfl) rfl) ?_
    all_goals refine dr_lit (t := 46) (b := false) rfl ?_
    all_goals refine dC (gN rfl rfl rfl (oM rfl (Conv.of rfl) rfl)) ?_
    all_goals refine dC (gN rfl rfl rfl (oLt rfl rfl rfl)) ?_
    all_goals refine dC (oQ rfl rfl rfl rfl) ?_
    all_goals refine dC (oM rfl (Conv.of rfl) rfl) ?_
    all_goals refine dr_lit (t := 50) (b := false) rfl ?_
    all_goals refine dC (gN rfl rfl rfl (oM rfl (Conv.of rfl) rfl)) ?_
    all_goals refine dC (gN rfl rfl rfl (oM rfl (Conv.of rfl) rfl)) ?_
    all_goals refine dC (gN rfl rfl rfl (op_slslh un9 rfl rfl rfl rfl (by decide))) ?_
    all_goals refine dC (gN rfl rfl rfl (oM rfl (Conv.of rfl) rfl)) ?_
    all_goals refine dC (gN rfl rfl rfl (oM rfl (Conv.of rfl) rfl)) ?_
    all_goals refine dC (gN rfl rfl rfl (oP rfl rfl rfl (by decide))) ?_
    all_goals refine dC (gN rfl rfl rfl (oM rfl (Conv.of rfl) rfl)) ?_
    all_goals refine dC (gN rfl rfl rfl (op_mul rfl rfl rfl (by decide))) ?_
    all_goals refine dC (gN rfl rfl rfl (op_slslh un9 rfl rfl rfl rfl (by decide))) ?_
    all_goals refine dC (gN rfl rfl rfl (op_neqs rfl rfl rfl)) ?_
    all_goals refine dC (oQ rfl rfl rfl rfl) ?_
    all_goals refine dC (oM rfl (Conv.of rfl) rfl) ?_
    all_goals refine dr_lit (t := 62) (b := false) rfl ?_
    all_goals refine dC (gN rfl rfl rfl (oM rfl (Conv.of rfl) rfl)) ?_
    all_goals refine dC (gN rfl rfl rfl (oM rfl (Conv.of rfl) rfl)) ?_
    all_goals refine dC (gN rfl rfl rfl (op_slslh un9 rfl rfl rfl rfl (by decide))) ?_
    all_goals refine dC (gN rfl rfl rfl (oM rfl (Conv.of rfl) rfl)) ?_
    all_goals refine dC (gN rfl rfl rfl (oM rfl (Conv.of rfl) rfl)) ?_
    all_goals refine dC (gN rfl rfl rfl (op_mul rfl rfl rfl (by decide))) ?_
    all_goals refine dC (gN rfl rfl rfl (oP rfl rfl rfl (by decide))) ?_
    all_goals refine dC (gN rfl rfl rfl (op_slsl un9 rfl rfl rfl (by decide))) ?_
    all_goals refine dC (gN rfl rfl rfl (op_neqs rfl rfl rfl)) ?_
    all_goals refine dC (oQ rfl rfl rfl rfl) ?_
    all_goals refine dr_nil mixed rfl ?_
    refine aC rfl (fun h => absurd h (by decide)) (fun h => ?_)
    refine aW ?_
    all_goals refine aS (aR ?_)
    all_goals refine oC (oM rfl (Conv.of rfl) rfl) ?_
    all_goals refine oC (op_slslh un9 rfl rfl rfl rfl (by decide)) ?_
    all_goals refine oC (op_eqls rfl rfl rfl) ?_
    all_goals refine oC (oM rfl (Conv.of rfl) rfl) ?_
    all_goals refine g_lit (t := 76) (b := true) rfl ?_
    all_goals refine oC (gN rfl rfl rfl (oM rfl (Conv.of rfl) rfl)) ?_
    all_goals refine oC (gN rfl rfl rfl (op_idxs un9 rfl rfl rfl (by decide) (show _ = some (52 : UInt8) from rfl))) ?_
    all_goals refine oC (gN rfl rfl rfl (op_geq8 rfl rfl rfl)) ?_
    all_goals refine oC (oQ rfl rfl rfl rfl) ?_
    all_goals refine oC (oM rfl (Conv.of rfl) rfl) ?_
    all_goals refine g_lit (t := 81) (b := true) rfl ?_
    all_goals refine oC (gN rfl rfl rfl (oM rfl (Conv.of rfl) rfl)) ?_
    all_goals refine oC (gN rfl rfl rfl (op_idxs un9 rfl rfl rfl (by decide) (show _ = some (52 : UInt8) from rfl))) ?_
    all_goals refine oC (gN rfl rfl rfl (op_leq8 rfl rfl rfl)) ?_
    all_goals refine oC (oQ rfl rfl rfl rfl) ?_
    all_goals refine oC (oA rfl (Conv.of rfl) rfl) ?_
    all_goals refine oN ?_
    refine aT ?_
    repeat first | refine rS ?_ | refine rB ?_
    exact finP (.v rfl (Conv.of rfl)) rfl rfl
  · refine aST (s' := mkSt 86 [(8, .v (4 : Int))] []) ?_ ?_
    · all_goals refine aR ?_
      all_goals refine oC (oM rfl (Conv.of rfl) rfl) ?_
      all_goals refine oC (oE sl22 rfl rfl) ?_
      all_goals refine oC (op_rem rfl rfl rfl (by decide)) ?_
      all_goals refine oC (oP rfl rfl rfl (by omega)) ?_
      all_goals refine oC (oA rfl (Conv.of rfl) rfl) ?_
      all_goals refine oN ?_
      all_goals exact Le.mk rfl (tle rfl (by (rw [h4]; rfl)) rfl tln) oln noS
    all_goals refine aS (aR ?_)
    all_goals refine oC (oM rfl (Conv.of rfl) rfl) ?_
    all_goals refine oC (oL fb15 (.cons rfl (Conv.of rfl) (.cons rfl (Conv.of rfl) (.nil _))) (lit_ct sc_three4) (aK rfl rfl (aK rfl rfl aK0)) rfl rfl) ?_
    all_goals refine oC (oA rfl (Conv.of rfl) rfl) ?_
    all_goals refine oN ?_
    all_goals refine aS (aR ?_)
    all_goals refine oC (oM rfl (Conv.of rfl) rfl) ?_
    all_goals refine oC (op_lens un9 rfl rfl) ?_
    all_goals refine oC (op_quo rfl rfl rfl (by decide)) ?_
    all_goals refine oC (oA rfl (Conv.of rfl) rfl) ?_
    all_goals refine oN ?_
    all_goals refine aS (aS (dS ?_))
    all_goals refine dC (oM rfl (Conv.of rfl) rfl) ?_
    all_goals refine dC (op_lens un9 rfl rfl) ?_
    all_goals refine dC (oM rfl (Conv.of rfl) rfl) ?_
    all_goals refine dC (op_mul rfl rfl rfl (by decide)) ?_
    all_goals refine dC (op_neq rfl rfl rfl) ?_
    all_goals refine dC (oM rfl (Conv.of rfl) rfl) ?_
    all_goals refine dr_lit (t := 46) (b := false) rfl ?_
    all_goals refine dC (gN rfl rfl rfl (oM rfl (Conv.of rfl) rfl)) ?_
    all_goals refine dC (gN rfl rfl rfl (oLt rfl rfl rfl)) ?_
    all_goals refine dC (oQ rfl rfl rfl rfl) ?_
    all_goals refine dC (oM rfl (Conv.of rfl) rfl) ?_
    all_goals refine dr_lit (t := 50) (b := false) rfl ?_
    all_goals refine dC (gN rfl rfl rfl (oM rfl (Conv.of rfl) rfl)) ?_
    all_goals refine dC (gN rfl rfl rfl (oM rfl (Conv.of rfl) rfl)) ?_
    all_goals refine dC (gN rfl rfl rfl (op_slslh un9 rfl rfl rfl rfl (by decide))) ?_
    all_goals refine dC (gN rfl rfl rfl (oM rfl (Conv.of rfl) rfl)) ?_
    all_goals refine dC (gN rfl rfl rfl (oM rfl (Conv.of rfl) rfl)) ?_
    all_goals refine dC (gN rfl rfl rfl (oP rfl rfl rfl (by decide))) ?_
    all_goals refine dC (gN rfl rfl rfl (oM rfl (Conv.of rfl) rfl)) ?_
    all_goals refine dC (gN rfl rfl rfl (op_mul rfl rfl rfl (by decide))) ?_
    all_goals refine dC (gN rfl rfl rfl (op_slslh un9 rfl rfl rfl rfl (by decide))) ?_
    all_goals refine dC (gN rfl rfl rfl (op_neqs rfl rfl rfl)) ?_
    all_goals refine dC (oQ rfl rfl rfl rfl) ?_
    all_goals refine dC (oM rfl (Conv.of rfl) rfl) ?_
    all_goals refine dr_lit (t := 62) (b := false) rfl ?_
    all_goals refine dC (gN rfl rfl rfl (oM rfl (Conv.of rfl) rfl)) ?_
    all_goals refine dC (gN rfl rfl rfl (oM rfl (Conv.of rfl) rfl)) ?_
    all_goals refine dC (gN rfl rfl rfl (op_slslh un9 rfl rfl rfl rfl (by decide))) ?_
    all_goals refine dC (gN rfl rfl rfl (oM rfl (Conv.of rfl) rfl)) ?_
    all_goals refine dC (gN rfl rfl rfl (oM rfl (Conv.of rfl) rfl)) ?_
    all_goals refine dC (gN rfl rfl rfl (op_mul rfl rfl rfl (by decide))) ?_
    all_goals refine dC (gN rfl rfl rfl (oP rfl rfl rfl (by decide))) ?_
    all_goals refine dC (gN rfl rfl rfl (op_slsl un9 rfl rfl rfl (by decide))) ?_
    all_goals refine dC (gN rfl rfl rfl (op_neqs rfl rfl rfl)) ?_
    all_goals refine dC (oQ rfl rfl rfl rfl) ?_
    all_goals refine dr_nil mixed rfl ?_
    refine aC rfl (fun h => absurd h (by decide)) (fun h => ?_)
    refine aW ?_
    all_goals refine aS (aR ?_)
    all_goals refine oC (oM rfl (Conv.of rfl) rfl) ?_
    all_goals refine oC (op_slslh un9 rfl rfl rfl rfl (by decide)) ?_
    all_goals refine oC (op_eqls rfl rfl rfl) ?_
    all_goals refine oC (oM rfl (Conv.of rfl) rfl) ?_
    all_goals refine g_lit (t := 76) (b := true) rfl ?_
    all_goals refine oC (gN rfl rfl rfl (oM rfl (Conv.of rfl) rfl)) ?_
    all_goals refine oC (gN rfl rfl rfl (op_idxs un9 rfl rfl rfl (by decide) (show _ = some (53 : UInt8) from rfl))) ?_
    all_goals refine oC (gN rfl rfl rfl (op_geq8 rfl rfl rfl)) ?_
    all_goals refine oC (oQ rfl rfl rfl rfl) ?_
    all_goals refine oC (oM rfl (Conv.of rfl) rfl) ?_
    all_goals refine g_lit (t := 81) (b := true) rfl ?_
    all_goals refine oC (gN rfl rfl rfl (oM rfl (Conv.of rfl) rfl)) ?_
    all_goals refine oC (gN rfl rfl rfl (op_idxs un9 rfl rfl rfl (by decide) (show _ = some (53 : UInt8) from rfl))) ?_
    all_goals refine oC (gN rfl rfl rfl (op_leq8 rfl rfl rfl)) ?_
    all_goals refine oC (oQ rfl rfl rfl rfl) ?_
    all_goals refine oC (oA rfl (Conv.of rfl) rfl) ?_
    all_goals refine oN ?_
    refine aT ?_
    repeat first | refine rS ?_ | refine rB ?_
    exact finP (.v rfl (Conv.of rfl)) rfl rfl
end Go.Proofs.YtgfoeiieopnlaaaGreatDoor

/- The law FnLinesThree returns true at every input, and leaves its arguments as they were; the listed tables of the library are tied to the text. No other condition. -/
set_option linter.unusedVariables false
namespace Go.Proofs.YtgfoeiieopnlaaaGreatDoor.fnLinesThree
open Go Go.ChangeShapes Go.WideShapes Go.ChangeAt Go.RowKit
theorem own : ownKnob Tryz.prog.godebug = none := by kernel_rfl
theorem laidOut : laidOutB Tryz.prog = true := by kernel_rfl
set_option maxRecDepth 100000 in
theorem lifted (os : Os) (started : os.Started) (H : Type) (enc : TypeId × Value → H) :
    ReturnsInHanded {} Tryz.checked os 4 .any (fun w args => (Rows.fnLinesThreeSpec.pre enc Tryz.prog Tryz.f4 Rows.fnLinesThreeRow.domain false w args ∧ laidMetH Tryz.prog Rows.fnLinesThreeRow.laid w) ∧ sizedMet enc Tryz.prog Tryz.f4 (OpenSpec.ofChange Rows.fnLinesThreeSpec) false w args) (Rows.fnLinesThreeSpec.post enc Tryz.prog Tryz.f4 false true false false) := by
  refine returnsInHanded_of_change_and (C := Tryz.checked) (X := fun w _ => laidMetH Tryz.prog Rows.fnLinesThreeRow.laid w) (fun _ _ _ hh h => h.of_heap hh) own started (by kernel_rfl) Tryz.func4
    (ChangeSpec.witness_shaped (enc := enc) (C := Tryz.checked) (os := os) (X := fun w _ => laidMetH Tryz.prog Rows.fnLinesThreeRow.laid w) false (World.laidAll Tryz.prog os Rows.fnLinesThreeRow.laid) #[.slice none 0 0, .slice none 0 0] 8 (World.laidAll_os _ _ _)
      (World.shaped_of_ZipB (by kernel_rfl) (by kernel_rfl)) (by kernel_rfl) (by kernel_rfl) (by kernel_rfl)
      (by rw [MakeChecks.laidMetH_plain _ _ _ (by kernel_rfl)]; exact laidMet_laidAll _ (by kernel_rfl) (by kernel_rfl))) ?_
  intro W base args ds gs before hval0 hW hcnd hsz0 hL _
  have hsz : (DataW.weightsEach Tryz.prog (Tryz.f4.params.toList ++ Rows.fnLinesThreeSpec.plain.varTypes Tryz.prog) (ds ++ gs)).all (· ≤ reachBytes) = true := hsz0
  have hval : ∀ (j : Nat) t v, Tryz.f4.params[j]? = some t → args[j]? = some v → Value.okWide Tryz.prog W .any base t v := hval0
  have hW' := hW
  obtain ⟨p, q, hA0, hV, rfl, hfz, hnd⟩ := hW
  have hA : DataW.TrodAll enc Tryz.prog W 0 (fun _ => true) true Tryz.f4.params.toList args.toList ds p := hA0
  rw [Tryz.params4] at hA hval hsz
  obtain ⟨v0, vs0, d0, ds0, p0, q0, hargs, rfl, rfl, h0, r0⟩ := trodAll_cons hA
  obtain ⟨v1, vs1, d1, ds1, p1, q1, rfl, rfl, rfl, h1, r1⟩ := trodAll_cons r0
  obtain ⟨rfl, rfl, rfl⟩ := trodAll_nil r1
  obtain rfl : args = #[v0, v1] := by cases args; simp_all
  obtain ⟨rfl, rfl⟩ := trodVars_none hV
  obtain ⟨a0, len0, cap0, rfl⟩ := okWide_slice Tryz.underlying22 (hval 0 22 v0 rfl rfl)
  have k0 := h0
  have lt0 : ∀ x ∈ p0, x.block < W.heap.size := by obtain ⟨m, hm⟩ := k0; exact DataW.trod_lt m _ _ _ hm
  obtain ⟨z0, w0⟩ := Go.Wt.rowOf (fun _ => rfl) Tryz.underlying22 Tryz.underlying5 (by kernel_rfl) h0
  have y0 := Go.Wt.lenOf hsz (j := 0) (t := 22) rfl rfl Tryz.underlying22 Tryz.underlying5 (by kernel_rfl) (by kernel_rfl) h0
  obtain ⟨a1, len1, cap1, rfl⟩ := okWide_slice Tryz.underlying22 (hval 1 22 v1 rfl rfl)
  have k1 := h1
  have lt1 : ∀ x ∈ p1, x.block < W.heap.size := by obtain ⟨m, hm⟩ := k1; exact DataW.trod_lt m _ _ _ hm
  obtain ⟨z1, w1⟩ := Go.Wt.rowOf (fun _ => rfl) Tryz.underlying22 Tryz.underlying5 (by kernel_rfl) h1
  have y1 := Go.Wt.lenOf hsz (j := 1) (t := 22) rfl rfl Tryz.underlying22 Tryz.underlying5 (by kernel_rfl) (by kernel_rfl) h1
  clear hA0 hval0 hsz0 hsz
  refine (Go.Wt.row2 FnLinesThree_ct W w0 y0 w1 y1).mono fun e W' ⟨he, bel⟩ => ?_
  subst he
  exact ⟨_, rfl, _, _, _, [], _, [], hW', trodAll_mk1 (shut_bool Tryz.underlying4 _), (trodAll_cons_mk (Below.trod laidOut (by kernel_rfl) (of_decide_eq_true (by kernel_rfl)) k0 bel lt0) (trodAll_cons_mk (Below.trod laidOut (by kernel_rfl) (of_decide_eq_true (by kernel_rfl)) k1 bel lt1) trodAll_mk0)), rfl, bel.frame _, fun h => by cases h⟩
theorem over : Rows.fnLinesThreeRow.holds Tryz.pinned (OpenSpec.ofChange Rows.fnLinesThreeSpec) :=
  OpenClaim.holds_of_wide 4 Tryz.f4 rfl rfl rfl rfl rfl rfl rfl ⟨rfl, rfl, rfl, rfl, rfl⟩ rfl rfl rfl rfl rfl (by kernel_rfl) Tryz.func4 (by kernel_rfl)
    (of_decide_eq_true (by kernel_rfl)) (by unfold Func.isWrapper; first | (rw [if_pos (by decide +kernel)]; kernel_rfl) | (rw [if_neg (by decide +kernel)]; exact ⟨rfl, rfl⟩))
    (fun os started H enc _ => lifted os started H enc)
theorem carded : Claim7.holds Tryz.pinned (.plain (OpenSpec.ofChange Rows.fnLinesThreeSpec)) Rows.fnLinesThreeCard :=
  Claim7.holds_tied_plain_at .later [] [.data, .data, .data, .data, .pinned] true (true, "3caafbc682674527d5246ae05796ab03dc03f22812cf3ed62f1f6f8091b60743") false over (fun _ h => by cases h) (by kernel_rfl) (fun _ h => by cases h) fnLinesThree_row_tie rfl ⟨rfl, rfl⟩ (by kernel_rfl) rfl
    (fun f fn hf hfn => by
      obtain rfl : f = 4 := Option.some.inj ((show Tryz.prog.funcNamed "loop.example/witan/laws.FnLinesThree" = some 4 by kernel_rfl).symm.trans hf) |>.symm
      obtain rfl : fn = Tryz.f4 := (Option.some.inj (Tryz.func4.symm.trans hfn)).symm
      exact ⟨by kernel_rfl, fun j t ht => by
        rw [Tryz.params4] at ht
        have hm : t ∈ [22] := by simpa using Array.mem_of_getElem? ht
        have hall : ([22].all fun u => !Tryz.prog.wantsStandIn u) = true := by kernel_rfl
        exact (show Tryz.prog.wantsStandIn t = false by simpa using List.all_eq_true.1 hall t hm)⟩)
    (by kernel_rfl)
end Go.Proofs.YtgfoeiieopnlaaaGreatDoor.fnLinesThree
namespace Go.Proofs.YtgfoeiieopnlaaaGreatDoor
theorem fnLinesThree_holds : Rows.FnLinesThreeCardSaid := fnLinesThree.carded
#print axioms fnLinesThree_holds
end Go.Proofs.YtgfoeiieopnlaaaGreatDoor
