/- Part 4 of the proof: texts one behind the other. -/
import Derived.Test.YtgfoeiieopnlaaaGreatDoorM3
import Derived.Below
import Derived.SizedLaws
import Derived.ChangeSlices
import Derived.Laws.Strings
import Derived.Laws.Concat
import Derived.Lib.Strings
import Derived.Laws.IdiomStrings
import Derived.Lib.Bytealg
/- The reference: draws. -/
set_option linter.unusedVariables false
set_option linter.unusedSimpArgs false
namespace Go.Proofs.YtgfoeiieopnlaaaGreatDoor
open Go Go.Wt
theorem l6Open_ct (code : List UInt8) : Ct Tryz.prog 17 [.v code] noObj (fun r1 h1 => r1 = .box 0 (IsLens.whole Rd) ∧ h1 = obs [(0, .cell (Rd.mk (code.take 2000) 0))]) := by
  refine Ct.intro Tryz.func17 rfl rfl ?_
  refine aS (aR ?_)
  refine oC (oA rfl (Conv.of rfl) rfl) ?_
  refine oN ?_
  refine aS (aS (aR ?_))
  refine oC (oM rfl (Conv.of rfl) rfl) ?_
  refine oC (oE sl22 rfl rfl) ?_
  refine oC (op_gtr rfl rfl rfl) ?_
  refine oN ?_
  refine aC rfl (fun h => ?_) (fun h => ?_)
  · refine aR ?_
    refine oC (oM rfl (Conv.of rfl) rfl) ?_
    refine oC (op_slh sl22 rfl rfl rfl ⟨by omega, by simp at h; omega⟩) ?_
    refine oC (oA rfl (Conv.of rfl) rfl) ?_
    refine oN ?_
    refine aS (aR ?_)
    refine oC (oM rfl (Conv.of rfl) rfl) ?_
    refine oC (op_build (.cons f59_0 rfl (Conv.of rfl) (.nil _)) z59 rfl pl59 rfl) ?_
    refine oC (op_box (o := 0) ty59 rfl (Conv.of rfl) rfl rfl) ?_
    refine oC (oA rfl (Conv.of rfl) rfl) ?_
    refine oN ?_
    refine aT ?_
    repeat first | refine rS ?_ | refine rB ?_
    exact ⟨_, _, res1E [(0, .cell (Rd.mk (code.take 2000) 0))] rfl rfl rfl (olk rfl bC oln) noS, rfl, rfl⟩
  · have e : code.take 2000 = code := take_end (by simp at h; omega)
    refine aW ?_
    refine aS (aR ?_)
    refine oC (oM rfl (Conv.of rfl) rfl) ?_
    refine oC (op_build (.cons f59_0 rfl (Conv.of rfl) (.nil _)) z59 rfl pl59 rfl) ?_
    refine oC (op_box (o := 0) ty59 rfl (Conv.of rfl) rfl rfl) ?_
    refine oC (oA rfl (Conv.of rfl) rfl) ?_
    refine oN ?_
    refine aT ?_
    repeat first | refine rS ?_ | refine rB ?_
    refine ⟨_, _, res1E [(0, .cell (Rd.mk code 0))] rfl rfl rfl (olk rfl bC oln) noS, rfl, ?_⟩
    rw [e]
set_option maxHeartbeats 1000000 in
theorem pick_ct (r : Rd) (n : Int) (hp : 0 ≤ r.p ∧ r.p ≤ 1000000) : CtO Tryz.prog 18 [.box 0 (IsLens.whole Rd), .v n] [(0, .cell r)] (.v (pk r n)) [(0, .cell (nx r 1))] := by
  refine Ct.intro Tryz.func18 rfl rfl ?_
  all_goals refine aS (aR ?_)
  all_goals refine oC (oA rfl (Conv.of rfl) rfl) ?_
  all_goals refine oN ?_
  all_goals refine aS (aR ?_)
  all_goals refine oC (oM rfl (Conv.of rfl) rfl) ?_
  all_goals refine oC (oM rfl (Conv.of rfl) rfl) ?_
  all_goals refine oC (oNB rfl rfl) ?_
  all_goals refine oC (oF f59_1 rfl rfl) ?_
  all_goals refine oC (oD ty3 rfl rfl rfl) ?_
  all_goals refine oC (oP rfl rfl rfl (by omega)) ?_
  all_goals refine oC (oNB rfl rfl) ?_
  all_goals refine oC (oF f59_1 rfl rfl) ?_
  all_goals refine oC (op_st ty3 rfl rfl (Conv.of rfl) rfl) ?_
  all_goals refine oN ?_
  refine aS (aST (s' := mkSt 99 [(0, .box 0 (IsLens.whole Rd)), (1, .v n), (24, .v (decide (n < 1) || decide ((r.b.length : Int) = 0)))] [(0, .cell (nx r 1))]) ?_ ?_)
  · all_goals refine aR ?_
    all_goals refine oC (oM rfl (Conv.of rfl) rfl) ?_
    all_goals refine oC (oLt rfl rfl rfl) ?_
    all_goals refine oC (oM rfl (Conv.of rfl) rfl) ?_
    all_goals refine g_split (t := 17) rfl (fun h => ?_) (fun h => ?_)
    all_goals first | refine oC (gF rfl rfl rfl rfl rfl) ?_ | refine oC (gN rfl rfl rfl (oM rfl (Conv.of rfl) rfl)) ?_
    all_goals first | refine oC (gF rfl rfl rfl rfl rfl) ?_ | refine oC (gN rfl rfl rfl (oNB rfl rfl)) ?_
    all_goals first | refine oC (gF rfl rfl rfl rfl rfl) ?_ | refine oC (gN rfl rfl rfl (oF f59_0 rfl rfl)) ?_
    all_goals first | refine oC (gF rfl rfl rfl rfl rfl) ?_ | refine oC (gN rfl rfl rfl (oD ty22 rfl rfl rfl)) ?_
    all_goals first | refine oC (gF rfl rfl rfl rfl rfl) ?_ | refine oC (gN rfl rfl rfl (oE sl22 rfl rfl)) ?_
    all_goals first | refine oC (gF rfl rfl rfl rfl rfl) ?_ | refine oC (gN rfl rfl rfl (op_eql rfl rfl rfl)) ?_
    all_goals refine oC (oQ rfl rfl rfl rfl) ?_
    all_goals refine oN ?_
    all_goals exact Le.mk rfl (tlb rfl rfl rfl (tle rfl (rfl) rfl (tle rfl (by (simp_all [nx]; try (rw [Bool.eq_iff_iff]; simp); try (intro hh; omega))) rfl tln))) (olk rfl (by exact bC) oln) (hU (a := [(0, .cell r)]) rfl)
  refine aC rfl (fun h => ?_) (fun h => ?_)
  · all_goals refine aS (aR ?_)
    all_goals refine oC (oA rfl (Conv.of rfl) rfl) ?_
    all_goals refine oN ?_
    refine aT ?_
    repeat first | refine rS ?_ | refine rB ?_
    refine finO1 [(0, .cell (nx r 1))] (.v rfl (Conv.of rfl)) (fun o ho => by cases ho) (olk rfl bC oln) (hK rfl) ?_
    show AV.v _ = AV.v _
    unfold pk pickV
    rw [if_pos h]
  · have hb : r.b.length ≠ 0 := by
      simp only [Bool.or_eq_false_iff, decide_eq_false_iff_not] at h; omega
    have hn : n ≠ 0 := by
      simp only [Bool.or_eq_false_iff, decide_eq_false_iff_not] at h; omega
    refine aW ?_
    refine aST (s' := mkSt 99 [(0, .box 0 (IsLens.whole Rd)), (1, .v n), (5, .v r.p)] [(0, .cell (nx r 1))]) ?_ ?_
    · all_goals refine aR ?_
      all_goals refine oC (oM rfl (Conv.of rfl) rfl) ?_
      all_goals refine oC (oNB rfl rfl) ?_
      all_goals refine oC (oF f59_1 rfl rfl) ?_
      all_goals refine oC (oD ty3 rfl rfl rfl) ?_
      all_goals refine oC (op_sub rfl rfl rfl (by (simp only [nx]; omega))) ?_
      all_goals refine oC (oA rfl (Conv.of rfl) rfl) ?_
      all_goals refine oN ?_
      all_goals exact Le.mk rfl (tlb rfl rfl rfl (tle rfl (rfl) rfl (tle rfl (by (simp only [nx]; congr 1; omega)) rfl tln))) (olk rfl (by exact bC) oln) (hU (a := [(0, .cell r)]) rfl)
    all_goals refine aS (aS (aR ?_))
    all_goals refine oC (oM rfl (Conv.of rfl) rfl) ?_
    all_goals refine oC (oM rfl (Conv.of rfl) rfl) ?_
    all_goals refine oC (oNB rfl rfl) ?_
    all_goals refine oC (oF f59_0 rfl rfl) ?_
    all_goals refine oC (oD ty22 rfl rfl rfl) ?_
    all_goals refine oC (oE sl22 rfl rfl) ?_
    all_goals refine oC (oLt rfl rfl rfl) ?_
    all_goals refine oN ?_
    refine aC rfl (fun h2 => ?_) (fun h2 => ?_)
    · have hlt : r.p < r.b.length := of_decide_eq_true h2
      have hx := getD_get hp.1 hlt
      all_goals refine aS (aR ?_)
      all_goals refine oC (oM rfl (Conv.of rfl) rfl) ?_
      all_goals refine oC (oNB rfl rfl) ?_
      all_goals refine oC (oF f59_0 rfl rfl) ?_
      all_goals refine oC (oD ty22 rfl rfl rfl) ?_
      all_goals refine oC (oM rfl (Conv.of rfl) rfl) ?_
      all_goals refine oC (op_ix sl22 rfl rfl rfl (by omega) hx) ?_
      all_goals refine oC (oDR ty5 rfl rfl) ?_
      all_goals refine oC (op_cvb rfl rfl us5 ui3) ?_
      all_goals refine oC (oM rfl (Conv.of rfl) rfl) ?_
      all_goals refine oC (op_rem rfl rfl rfl (by exact hn)) ?_
      all_goals refine oC (oA rfl (Conv.of rfl) rfl) ?_
      all_goals refine oN ?_
      refine aT ?_
      repeat first | refine rS ?_ | refine rB ?_
      refine finO1 [(0, .cell (nx r 1))] (.v rfl (Conv.of rfl)) (fun o ho => by cases ho) (olk rfl bC oln) (hK rfl) ?_
      show AV.v _ = AV.v _
      unfold pk pickV
      rw [if_neg (by rw [h]; decide), if_pos (by simpa using hlt)]
    · have hge : ¬ r.p < r.b.length := of_decide_eq_false h2
      have m1 := tmod_bd hp.1 (show (0 : Int) < (nx r 1).b.length by simp [nx]; omega)
      have m2 := tmod_bd (show 0 ≤ r.p * 7 + 3 by omega) (show (0 : Int) < (nx r 1).b.length by simp [nx]; omega)
      have hx1 := getD_get m1.1 m1.2
      have hx2 := getD_get m2.1 m2.2
      have b1 := u8_bd ((nx r 1).b.getD (r.p.tmod (nx r 1).b.length).toNat 0)
      have b2 := u8_bd ((nx r 1).b.getD ((r.p * 7 + 3).tmod (nx r 1).b.length).toNat 0)
      have h3 := tdiv_bd hp.1 (show (0 : Int) < (nx r 1).b.length by simp [nx]; omega)
      have h4 : IntKind.i64.wrap (r.p.tdiv (nx r 1).b.length) = r.p.tdiv (nx r 1).b.length := wrap_in (by omega)
      refine aW ?_
      all_goals refine aS (dS ?_)
      all_goals refine dC (oM rfl (Conv.of rfl) rfl) ?_
      all_goals refine dC (oNB rfl rfl) ?_
      all_goals refine dC (oF f59_0 rfl rfl) ?_
      all_goals refine dC (oD ty22 rfl rfl rfl) ?_
      all_goals refine dC (oM rfl (Conv.of rfl) rfl) ?_
      all_goals refine dC (oM rfl (Conv.of rfl) rfl) ?_
      all_goals refine dC (oNB rfl rfl) ?_
      all_goals refine dC (oF f59_0 rfl rfl) ?_
      all_goals refine dC (oD ty22 rfl rfl rfl) ?_
      all_goals refine dC (oE sl22 rfl rfl) ?_
      all_goals refine dC (op_rem rfl rfl rfl (by (show (r.b.length : Int) ≠ 0; omega))) ?_
      all_goals refine dC (op_ix sl22 rfl rfl rfl (by omega) hx1) ?_
      all_goals refine dC (oDR ty5 rfl rfl) ?_
      all_goals refine dC (op_cvb rfl rfl us5 ui3) ?_
      all_goals refine dC (op_mul rfl rfl rfl (by omega)) ?_
      all_goals refine dC (oM rfl (Conv.of rfl) rfl) ?_
      all_goals refine dC (oNB rfl rfl) ?_
      all_goals refine dC (oF f59_0 rfl rfl) ?_
      all_goals refine dC (oD ty22 rfl rfl rfl) ?_
      all_goals refine dC (oM rfl (Conv.of rfl) rfl) ?_
      all_goals refine dC (op_mul rfl rfl rfl (by omega)) ?_
      all_goals refine dC (oP rfl rfl rfl (by omega)) ?_
      all_goals refine dC (oM rfl (Conv.of rfl) rfl) ?_
      all_goals refine dC (oNB rfl rfl) ?_
      all_goals refine dC (oF f59_0 rfl rfl) ?_
      all_goals refine dC (oD ty22 rfl rfl rfl) ?_
      all_goals refine dC (oE sl22 rfl rfl) ?_
      all_goals refine dC (op_rem rfl rfl rfl (by (show (r.b.length : Int) ≠ 0; omega))) ?_
      all_goals refine dC (op_ix sl22 rfl rfl rfl (by omega) hx2) ?_
      all_goals refine dC (oDR ty5 rfl rfl) ?_
      all_goals refine dC (op_cvb rfl rfl us5 ui3) ?_
      all_goals refine dC (op_mul rfl rfl rfl (by omega)) ?_
      all_goals refine dC (oP rfl rfl rfl (by omega)) ?_
      all_goals refine dC (oM rfl (Conv.of rfl) rfl) ?_
      all_goals refine dC (op_mul rfl rfl rfl (by omega)) ?_
      all_goals refine dC (oP rfl rfl rfl (by omega)) ?_
      all_goals refine dC (oM rfl (Conv.of rfl) rfl) ?_
      all_goals refine dC (oM rfl (Conv.of rfl) rfl) ?_
      all_goals refine dC (oNB rfl rfl) ?_
      all_goals refine dC (oF f59_0 rfl rfl) ?_
      all_goals refine dC (oD ty22 rfl rfl rfl) ?_
      all_goals refine dC (oE sl22 rfl rfl) ?_
      all_goals refine dC (op_quo rfl rfl rfl (by (show (r.b.length : Int) ≠ 0; omega))) ?_
      all_goals refine dC (op_mul rfl rfl rfl (by (rw [h4]; omega))) ?_
      all_goals refine dC (oP rfl rfl rfl (by (rw [h4]; omega))) ?_
      all_goals refine dC (oA rfl (Conv.of rfl) rfl) ?_
      all_goals set_option maxRecDepth 100000 in refine dr_nil mixed rfl ?_
      all_goals refine aS (aR ?_)
      all_goals refine oC (oM rfl (Conv.of rfl) rfl) ?_
      all_goals refine oC (oM rfl (Conv.of rfl) rfl) ?_
      all_goals refine oC (op_quo rfl rfl rfl (by decide)) ?_
      all_goals refine oC (op_xor rfl rfl rfl) ?_
      all_goals refine oC (oA rfl (Conv.of rfl) rfl) ?_
      all_goals refine oN ?_
      all_goals refine aS (aR ?_)
      all_goals refine oC (oM rfl (Conv.of rfl) rfl) ?_
      all_goals refine oC (oM rfl (Conv.of rfl) rfl) ?_
      all_goals refine oC (op_rem rfl rfl rfl (by exact hn)) ?_
      all_goals refine oC (oA rfl (Conv.of rfl) rfl) ?_
      all_goals refine oN ?_
      refine aT ?_
      repeat first | refine rS ?_ | refine rB ?_
      refine finO1 [(0, .cell (nx r 1))] (.v rfl (Conv.of rfl)) (fun o ho => by cases ho) (olk rfl bC oln) (hK rfl) ?_
      show AV.v _ = AV.v _
      unfold pk pickV mixV
      rw [if_neg (by rw [h]; decide), if_neg (by simpa using hge)]
      rfl
end Go.Proofs.YtgfoeiieopnlaaaGreatDoor

/- The reference: draws of payments and chains. -/
set_option linter.unusedVariables false
set_option linter.unusedSimpArgs false
namespace Go.Proofs.YtgfoeiieopnlaaaGreatDoor
open Go Go.Wt
theorem l71Pay_ct (r : Rd) (hp : Far 900000 r) : CtO Tryz.prog 33 [.box 0 (IsLens.whole Rd)] [(0, .cell r)] (.v (payV r)) [(0, .cell (nx r 3))] := by
  have hp1 : Far 900001 (nx r 1) := hp.nx (by omega) (by omega)
  have hp2 : Far 900002 (nx (nx r 1) 1) := hp1.nx (by omega) (by omega)
  have b0 := pk_bd hp (by omega) 3
  have b1 := pk_bd hp1 (by omega) 2
  have b2 := pk_bd hp2 (by omega) 9
  have c0 := b0.2 (by omega)
  have c1 := b1.2 (by omega)
  have c2 := b2.2 (by omega)
  have m1 := tmod_bd (show 0 ≤ 1 + pk r 3 + pk (nx r 1) 2 by omega) (show (0 : Int) < 3 by omega)
  refine Ct.intro Tryz.func33 rfl rfl ?_
  refine aS (aR ?_)
  refine oC (oX (o := 2) z61 rfl rfl) ?_
  refine oN ?_
  refine aS (aR ?_)
  refine oC (oM rfl (Conv.of rfl) rfl) ?_
  refine oC (oLO fb18 (.cons rfl (Conv.of rfl) (.cons rfl (Conv.of rfl) (.nil _))) (pick_ct r 3 (by unfold Far at hp; omega)) (olsk rfl ols0) (kK (by exact bC) k0) (kK (by exact bC) k0) rfl (argOb rfl rfl rfl (argOk' rfl rfl argO0)) (fun o ho => by cases ho) rfl) ?_
  refine oC (oP rfl rfl rfl (by omega)) ?_
  refine oC (oA rfl (Conv.of rfl) rfl) ?_
  refine oN ?_
  refine aS (aR ?_)
  refine oC (oM rfl (Conv.of rfl) rfl) ?_
  refine oC (oM rfl (Conv.of rfl) rfl) ?_
  refine oC (oM rfl (Conv.of rfl) rfl) ?_
  refine oC (oLO fb18 (.cons rfl (Conv.of rfl) (.cons rfl (Conv.of rfl) (.nil _))) (pick_ct (nx r 1) 2 (by unfold Far at hp1; omega)) (olsk rfl ols0) (kK (by exact bC) k0) (kK (by exact bC) k0) rfl (argOb rfl rfl rfl (argOk' rfl rfl argO0)) (fun o ho => by cases ho) rfl) ?_
  refine oC (oP rfl rfl rfl (by omega)) ?_
  refine oC (op_rem rfl rfl rfl (by decide)) ?_
  refine oC (oP rfl rfl rfl (by omega)) ?_
  refine oC (oM rfl (Conv.of rfl) rfl) ?_
  refine oC (oLO fb18 (.cons rfl (Conv.of rfl) (.cons rfl (Conv.of rfl) (.nil _))) (pick_ct (nx (nx r 1) 1) 9 (by unfold Far at hp2; omega)) (olsk rfl ols0) (kK (by exact bC) k0) (kK (by exact bC) k0) rfl (argOb rfl rfl rfl (argOk' rfl rfl argO0)) (fun o ho => by cases ho) rfl) ?_
  refine oC (oP rfl rfl rfl (by omega)) ?_
  refine oC (op_build (.cons f61_0 rfl (Conv.of rfl) (.cons f61_1 rfl (Conv.of rfl) (.cons f61_2 rfl (Conv.of rfl) (.nil _)))) z61 rfl pl61 rfl) ?_
  refine oC (op_st ty61 rfl rfl (Conv.of rfl) rfl) ?_
  refine oN ?_
  refine aT ?_
  repeat first | refine rS ?_ | refine rB ?_
  refine finO1 [(0, .cell (nx r 3))] (.rc ty61 rfl rfl) (fun o ho => by cases ho) (olk (by show Wt.Obj.cell _ = Wt.Obj.cell _; rw [nx_nx, nx_nx]; rfl) bC oln) (hK rfl) ?_
  show AV.v _ = AV.v _
  unfold payV
  rw [nx_nx]; rfl
/-- What is drawn for a world. -/
abbrev ro (r : Rd) (w : Wrld) : List (Nat × Wt.Obj) := [(0, .cell r), (1, .arr (w.nodes.map sN))]
end Go.Proofs.YtgfoeiieopnlaaaGreatDoor

/- The reference: draws of events. -/
set_option linter.unusedVariables false
set_option linter.unusedSimpArgs false
namespace Go.Proofs.YtgfoeiieopnlaaaGreatDoor
open Go Go.Wt
end Go.Proofs.YtgfoeiieopnlaaaGreatDoor

/- The reference: draws of plays. -/
set_option linter.unusedVariables false
set_option linter.unusedSimpArgs false
namespace Go.Proofs.YtgfoeiieopnlaaaGreatDoor
open Go Go.Wt
end Go.Proofs.YtgfoeiieopnlaaaGreatDoor

/- The reference: a drawn play. -/
set_option linter.unusedVariables false
set_option linter.unusedSimpArgs false
namespace Go.Proofs.YtgfoeiieopnlaaaGreatDoor
open Go Go.Wt
end Go.Proofs.YtgfoeiieopnlaaaGreatDoor

/- What further draws give. -/
set_option linter.unusedVariables false
set_option linter.unusedSimpArgs false
namespace Go.Wt
def gi (l : List Int) (i : Int) : Int := l.getD i.toNat 0
def anyPayF (r : Rd) : Pay × Rd :=
  if pk (nx r 3) 12 = 0 then ({ payV r with to := (payV r).frm }, nx r 4) else
  if pk (nx r 3) 12 = 1 then ({ payV r with sum := gi [0, 10] (pk (nx r 4) 2) }, nx r 5) else
  if pk (nx r 3) 12 = 2 then ({ payV r with frm := gi [0, 4] (pk (nx r 4) 2) }, nx r 5) else (payV r, nx r 4)
/-- A chain, seldom spoilt. -/
def offAt (c : List Itm) (r : Rd) : List Itm × Rd :=
  if pk r 16 = 0 then (c ++ [⟨pk (nx r 1) 4, (anyPayF (nx r 2)).1⟩], (anyPayF (nx r 2)).2) else
  if pk r 16 = 1 then (if 0 < c.length then (c.set (pk (nx r 1) c.length).toNat { c.getD (pk (nx r 1) c.length).toNat Itm.zero with epoch := gi [0, 30, 31] (pk (nx r 2) 3) }, nx r 3) else (c, nx r 1)) else
  if pk r 16 = 2 then (if 0 < c.length then (c.set (pk (nx r 1) c.length).toNat { c.getD (pk (nx r 1) c.length).toNat Itm.zero with pay := (anyPayF (nx r 2)).1 }, (anyPayF (nx r 2)).2) else (c, nx r 1)) else (c, nx r 1)
def offF (r : Rd) : List Itm × Rd := offAt (chainV r) (chainR r)
/-- A vote's chain, if nothing is drawn. -/
def voteC (c : List Itm) (r : Rd) : List Itm × Rd :=
  if c.length = 0 then (if 0 < pk r 4 then ([⟨1 + pk (nx r 1) 3, payV (nx r 2)⟩], nx r 5) else (c, nx r 1)) else (c, r)
def voteB (b : Int) (r : Rd) : Int × Rd := if pk r 16 = 0 then (gi [0, 5] (pk (nx r 1) 2), nx r 2) else (b, nx r 1)
def voteDF (r : Rd) : Vote × Rd :=
  (⟨(voteB (1 + pk r 4) (voteC (offF (nx r 1)).1 (offF (nx r 1)).2).2).1, (voteC (offF (nx r 1)).1 (offF (nx r 1)).2).1⟩, (voteB (1 + pk r 4) (voteC (offF (nx r 1)).1 (offF (nx r 1)).2).2).2)
instance (n : Nod) : Grow Vote (.v (sN n).seen) n.seen := inferInstanceAs (Grow Vote (.v (OList.mk n.seen true)) n.seen)
instance (w : Wrld) : Grow Vote (.v (sW w).log) w.log := inferInstanceAs (Grow Vote (.v (OList.mk w.log true)) w.log)
/-- A world of a drawn one's size. -/
structure Lw (w : Wrld) : Prop where
  ep : -100 ≤ w.epoch ∧ w.epoch ≤ 100
  four : w.nodes.length = 4
  ll : w.log.length ≤ 100
  lc : ∀ v ∈ w.log, v.chain.length ≤ 30
  sl : ∀ n ∈ w.nodes, n.seen.length ≤ 100 ∧ ∀ v ∈ n.seen, v.chain.length ≤ 30
end Go.Wt

/- The reference: further draws. -/
set_option linter.unusedVariables false
set_option linter.unusedSimpArgs false
namespace Go.Proofs.YtgfoeiieopnlaaaGreatDoor
open Go Go.Wt
end Go.Proofs.YtgfoeiieopnlaaaGreatDoor

/- The reference: draws of events in a plain world. -/
set_option linter.unusedVariables false
set_option linter.unusedSimpArgs false
namespace Go.Proofs.YtgfoeiieopnlaaaGreatDoor
open Go Go.Wt
end Go.Proofs.YtgfoeiieopnlaaaGreatDoor

/- The reference: drawn worlds, and what happens in them. -/
set_option linter.unusedVariables false
set_option linter.unusedSimpArgs false
namespace Go.Proofs.YtgfoeiieopnlaaaGreatDoor
open Go Go.Wt
end Go.Proofs.YtgfoeiieopnlaaaGreatDoor

/- The reference: a drawn world and an event; a drawn world and payments. -/
set_option linter.unusedVariables false
set_option linter.unusedSimpArgs false
namespace Go.Proofs.YtgfoeiieopnlaaaGreatDoor
open Go Go.Wt
end Go.Proofs.YtgfoeiieopnlaaaGreatDoor

/- The laws' own words: the same chains, votes, nodes, worlds. -/
set_option linter.unusedVariables false
set_option linter.unusedSimpArgs false
namespace Go.Proofs.YtgfoeiieopnlaaaGreatDoor
open Go Go.Wt
end Go.Proofs.YtgfoeiieopnlaaaGreatDoor

/- From a call's contract to the given row: slices of bytes that come in. -/
set_option linter.unusedVariables false
namespace Go.Wt
open Go Go.ChangeShapes Go.WideShapes Go.RowKit
/-- A slice of bytes that came in. -/
def IsRow (w : World) (a : Option Addr) (len cap : Nat) (zs : List Int) : Prop :=
  (a = none ∧ len = 0 ∧ cap = 0 ∧ zs = []) ∨
  ∃ x, a = some x ∧ len ≤ cap ∧ zs.length = cap ∧ (∀ i, i < zs.length → w.cell? (x.add i) = some (.int .u8 (zs.getD i 0))) ∧ ∀ n ∈ zs, (Lit.int .u8 n).wf = true
def G0 : Gh := ⟨fun _ _ => none, fun _ => none⟩
def codeOf (zs : List Int) (len : Nat) : List UInt8 := (zs.take len).map fun z => UInt8.ofNat z.toNat
theorem codeOf_rd {w : World} {a : Option Addr} {len cap : Nat} {zs : List Int} {ω : Owner} (h : IsRow w a len cap zs) (y : len ≤ 140737488351232) : RelV G0 w ω (.v (codeOf zs len)) (.slice a len cap) := by
  refine ⟨[.slice a len cap], ?_, rfl⟩
  rcases h with ⟨rfl, rfl, rfl, rfl⟩ | ⟨x, rfl, hl, hz, hc, hw⟩
  · exact ⟨none, 0, rfl, Nat.le_refl _, .inl rfl⟩
  · have hlen : (codeOf zs len).length = len := by simp [codeOf]; omega
    refine ⟨some x, cap, by rw [hlen], by rw [hlen]; exact hl, ?_⟩
    by_cases h0 : len = 0
    · left; exact List.eq_nil_of_length_eq_zero (by omega)
    · right
      obtain ⟨b, off, spot⟩ := x
      have h1 := hc 0 (by omega)
      have hsp : spot = none := by
        cases spot with
        | none => rfl
        | some s =>
          exfalso
          simp only [Addr.add, if_true, World.cell?] at h1
          split at h1 <;> simp at h1
      subst hsp
      refine ⟨b, off, rfl, by rw [hlen]; show len ≤ 4611686018427387904; omega, fun i u hu => ?_⟩
      have hi : i < len := by have := getElem?_lt hu; omega
      have hiz : i < zs.length := by omega
      have hu' : u = UInt8.ofNat (zs.getD i 0).toNat := by
        unfold codeOf at hu
        rw [List.getElem?_map, List.getElem?_take, if_pos hi, List.getElem?_eq_getElem hiz] at hu
        simp at hu
        rw [← hu, List.getD_eq_getElem?_getD, List.getElem?_eq_getElem hiz]; rfl
      have hwf := hw (zs.getD i 0) (by
        rw [List.getD_eq_getElem?_getD, List.getElem?_eq_getElem hiz]; exact List.getElem_mem hiz)
      have hn : ((u.toNat : Nat) : Int) = zs.getD i 0 := by
        have hb : 0 ≤ zs.getD i 0 ∧ zs.getD i 0 < 256 := by
          have hh : 0 ≤ zs.getD i 0 ∧ zs.getD i 0 ≤ 255 := by simpa [Lit.wf, IntKind.min, IntKind.max, IntKind.signed, IntKind.bits] using hwf
          omega
        rw [hu']
        have : (UInt8.ofNat (zs.getD i 0).toNat).toNat = (zs.getD i 0).toNat := by
          rw [UInt8.toNat_ofNat']; omega
        rw [this]; omega
      refine ⟨[.int .u8 u.toNat], rfl, fun j v hj => ?_⟩
      have hj0 : j = 0 := by
        have := getElem?_lt hj
        simp at this; exact this
      subst hj0
      simp at hj
      subst hj
      refine ⟨rfl, ?_⟩
      have h2 := hc i hiz
      have e : (⟨b, off, none⟩ : Addr).add i = ⟨b, off + i, none⟩ := add_lit b off i
      rw [e] at h2
      show cl w b (off + i * 1 + 0) = _
      rw [Nat.mul_one, Nat.add_zero]
      show w.cell? ⟨b, off + i, none⟩ = _
      rw [h2, hn]
theorem keep_below {S : Nat → Prop} {w w' : World} {G' : Gh} (h : Keep S G0 w G' w') : Below w.heap.size w w' :=
  ⟨h.os, h.tape, h.output, h.size, fun k hk => h.block k hk fun _ _ _ => .inl rfl⟩
theorem row_bool {P : Program} {f : FuncId} {args : List AV} {vs : List Value} {w : World} (h : CtP P f args (.v true)) (hr : RelAs G0 w 0 args vs) :
    Calls P f vs.toArray w fun e w' => e = .returned (.bool true) ∧ Below w.heap.size w w' :=
  (h G0 w vs hr fun o => rfl).mono fun e w' ⟨r, h', v, G', e1, ⟨e2, e3⟩, e4, e5, e6⟩ => by
    subst e2
    exact ⟨by rw [e1, RelV.bool e4], keep_below e6⟩
theorem row1 {P : Program} {f : FuncId} (h : ∀ code : List UInt8, CtP P f [.v code] (.v true)) {a : Option Addr} {len cap : Nat} {zs : List Int} (w : World) (hr : IsRow w a len cap zs) (y : len ≤ 140737488351232) :
    Calls P f #[.slice a len cap] w fun e w' => e = .returned (.bool true) ∧ Below w.heap.size w w' :=
  row_bool (vs := [_]) (h (codeOf zs len)) ⟨_, _, rfl, codeOf_rd hr y, rfl⟩
theorem row2 {P : Program} {f : FuncId} (h : ∀ code more : List UInt8, CtP P f [.v code, .v more] (.v true)) {a a2 : Option Addr} {len cap len2 cap2 : Nat} {zs zs2 : List Int} (w : World) (hr : IsRow w a len cap zs) (y : len ≤ 140737488351232)
    (hr2 : IsRow w a2 len2 cap2 zs2) (y2 : len2 ≤ 140737488351232) : Calls P f #[.slice a len cap, .slice a2 len2 cap2] w fun e w' => e = .returned (.bool true) ∧ Below w.heap.size w w' :=
  row_bool (vs := [_, _]) (h (codeOf zs len) (codeOf zs2 len2)) ⟨_, _, rfl, codeOf_rd hr y, _, _, rfl, codeOf_rd hr2 y2, rfl⟩
theorem rowIS {P : Program} {f : FuncId} (h : ∀ (n : Int) (l : List UInt8), CtP P f [.v n, .v (ByteArray.mk l.toArray)] (.v true)) (w : World) (n : Int) (s : ByteArray) :
    Calls P f #[.int .i64 n, .string s] w fun e w' => e = .returned (.bool true) ∧ Below w.heap.size w w' :=
  row_bool (vs := [_, _]) (h n s.data.toList) ⟨_, _, rfl, ⟨[.int .i64 n], rfl, rfl⟩, _, _, rfl, ⟨[.string s], (by show [Value.string s] = [Value.string ⟨s.data.toList.toArray⟩]; rw [Array.toArray_toList]), rfl⟩, rfl⟩
/-- What came in is read. -/
theorem rowOf {H : Type} {enc : TypeId × Value → H} {P : Program} {W : World} {base : Nat} {spare : Nat → Bool} {held : Bool} {t e : TypeId} {a : Option Addr} {len cap : Nat} {d : DataW H} {ps : List MemPlace} (hsp : ∀ b, spare b = true)
    (hu : P.underlying t = some (.slice e)) (he : P.underlying e = some (.int .u8)) (hc : P.cellsOf e = 1) (h : DataW.Trod enc P W base spare held t (.slice a len cap) d ps) : ∃ zs, IsRow W a len cap zs := by
  obtain ⟨fuel, hf⟩ := h
  rcases open_ints hu he hc hf with ⟨hcs, _⟩ | ⟨x, l, c, zs, hcs, _, hl, hm, hz, _, hcell, hwz⟩
  · simp [Value.cells] at hcs
    obtain ⟨rfl, rfl, rfl⟩ := hcs
    exact ⟨[], .inl ⟨rfl, rfl, rfl, rfl⟩⟩
  · simp [Value.cells] at hcs
    obtain ⟨rfl, rfl, rfl⟩ := hcs
    rw [if_pos (hsp _)] at hz
    exact ⟨zs, .inr ⟨_, rfl, hl, hz, hcell, hwz⟩⟩
theorem lenOf {H : Type} {enc : TypeId × Value → H} {P : Program} {W : World} {base : Nat} {spare : Nat → Bool} {held : Bool} {t e : TypeId} {a : Option Addr} {len cap : Nat} {d : DataW H} {ps : List MemPlace} {ts : List TypeId} {ds : List (DataW H)} {j : Nat}
    (hsz : (DataW.weightsEach P ts ds).all (· ≤ reachBytes) = true) (ht : ts[j]? = some t) (hd : ds[j]? = some d) (hu : P.underlying t = some (.slice e)) (he : P.underlying e = some (.int .u8)) (hc : P.cellsOf e = 1) (hB : P.bytesOf e = 1)
    (h : DataW.Trod enc P W base spare held t (.slice a len cap) d ps) : len ≤ 140737488351232 := by
  obtain ⟨fuel, hf⟩ := h
  rcases open_ints hu he hc hf with ⟨hcs, _⟩ | ⟨x, l, c, zs, hcs, _, hl, _, hz, hx, _, _⟩
  · simp [Value.cells] at hcs
    omega
  · simp [Value.cells] at hcs
    obtain ⟨rfl, rfl, rfl⟩ := hcs
    obtain ⟨hx, _⟩ := Prod.mk.inj hx
    subst hx
    have z := sized_slice hsz ht hd hu
    rw [hB] at z
    have hl2 : len ≤ zs.length := by
      rw [hz]
      split
      · exact hl
      · exact Nat.le_refl _
    simp only [lits, List.length_map, List.length_take, List.length_drop] at z
    have hr : reachBytes = 140737488351232 := rfl
    omega
end Go.Wt

/- Plays, as both have them. -/
set_option linter.unusedVariables false
set_option linter.unusedSimpArgs false
namespace Go.Proofs.YtgfoeiieopnlaaaGreatDoor
open Go Go.Wt
/-- A play, with its answer. -/
def playR (bad : Int) (evs : List Evt) : Wrld × Bool := if within bad 0 4 && decide (evs.length ≤ 70) then (playF bad evs, true) else (Wrld.zero, false)
theorem sWorldNewBad_ct (bad : Int) (hb : within bad 0 4 = false) : CtP Tryz.prog 28 [.v bad] (.tup [.v WrldS.zero, .v false]) := by
  refine Ct.intro Tryz.func28 rfl rfl ?_
  first | refine aS (aR ?_) | refine aS (aS (aR ?_)) | refine aR ?_ | refine aS (aS (aS (aR ?_)))
  refine oC (oX (o := 5) z38_WrldS rfl rfl) ?_
  refine oC (oA rfl (Conv.of rfl) rfl) ?_
  refine oN ?_
  first | refine aS (aR ?_) | refine aS (aS (aR ?_)) | refine aR ?_ | refine aS (aS (aS (aR ?_)))
  first | refine oC (oM rfl (Conv.of rfl) rfl) ?_ | refine oC (op_mvl rfl rfl rfl rfl) ?_ | refine oC (op_mvo rfl rfl rfl rfl) ?_
  refine oC (oL fb54 (.cons rfl (Conv.of rfl) (.cons rfl (Conv.of rfl) (.cons rfl (Conv.of rfl) (.nil _)))) (l6In_ct _ _ _) (aK rfl rfl (aK rfl rfl (aK rfl rfl aK0))) rfl rfl) ?_
  refine oC (op_not rfl rfl) ?_
  refine oN ?_
  first | refine aS (aC rfl (fun h => ?_) (fun h => absurd (not_f h) (by rw [hb]; decide))) | refine aS (aS (aC rfl (fun h => ?_) (fun h => absurd (not_f h) (by rw [hb]; decide)))) | refine aC rfl (fun h => ?_) (fun h => absurd (not_f h) (by rw [hb]; decide)) | refine aS (aS (aS (aC rfl (fun h => ?_) (fun h => absurd (not_f h) (by rw [hb]; decide)))))
  first | refine aS (aR ?_) | refine aS (aS (aR ?_)) | refine aR ?_ | refine aS (aS (aS (aR ?_)))
  refine oC (op_build (.nil _) z38_WrldS rfl pl38 rfl) ?_
  first | refine oC (op_st tW rfl rfl (Conv.of rfl) rfl) ?_ | refine oC (op_ste tW rfl rfl (Conv.of rfl) rfl (by assumption)) ?_ | refine oC (op_stm tW rfl rfl rfl) ?_ | refine oC (op_stme tW rfl rfl rfl (by assumption)) ?_
  refine oC (oA rfl (Conv.of rfl) rfl) ?_
  refine oN ?_
  refine aT ?_
  repeat first | refine rS ?_ | refine rB ?_
  exact ⟨_, _, rNM (ol := []) (.cell tW rfl rfl (.keep (.v rfl (Conv.of rfl)) (.nil _))) rfl (fun o ho => absurd (show o ∈ ([] : List Nat) from ho) (by simp)) oln noS, rfl, rfl⟩
end Go.Proofs.YtgfoeiieopnlaaaGreatDoor

/- The program's words for outsiders. -/
set_option linter.unusedVariables false
set_option linter.unusedSimpArgs false
namespace Go.Proofs.YtgfoeiieopnlaaaGreatDoor
open Go Go.Wt
theorem gdOf {l : List Vote} (ho : votesOk l = true) (hl : l.length ≤ 1000) : Gd l := ⟨hl, votesOk_mem ho⟩
end Go.Proofs.YtgfoeiieopnlaaaGreatDoor

/- Worlds in form; what happens in a world, for outsiders. -/
set_option linter.unusedVariables false
set_option linter.unusedSimpArgs false
namespace Go.Proofs.YtgfoeiieopnlaaaGreatDoor
open Go Go.Wt
def worldDoR (w : Wrld) (e : Evt) : Wrld := if worldOk w then doF w e else Wrld.zero
end Go.Proofs.YtgfoeiieopnlaaaGreatDoor

/- The reference: votes, nodes and worlds in form; copies. -/
set_option linter.unusedVariables false
set_option linter.unusedSimpArgs false
namespace Go.Proofs.YtgfoeiieopnlaaaGreatDoor
open Go Go.Wt
theorem sVotesOk_ct (l : List Vote) : CtP Tryz.prog 130 [.v l] (.v (votesOk l)) := by
  refine Ct.intro Tryz.func130 rfl rfl ?_
  refine awp_bigL 0 rfl (fun hB => ?_)
  all_goals refine aS (aR ?_)
  all_goals refine oC (oA rfl (Conv.of rfl) rfl) ?_
  all_goals refine oN ?_
  all_goals refine aS (aS (aR ?_))
  all_goals refine oC (oA rfl (Conv.of rfl) rfl) ?_
  all_goals refine oN ?_
  refine aB ?_
  refine awp_loop' (fun n_ s => ∃ (k : Nat), ∃ (hn : n_ + k = l.length), ∃ (hall : votesOk l = votesOkFrom (l.take k) (l.drop k)), s = mkSt 26 [(0, .v l), (3, .v (k : Int))] []) (l.length) ⟨0, by omega, rfl, rfl⟩ (Le.mk rfl (tle rfl (rfl) rfl (tle rfl (rfl) rfl tln)) oln noS) ?_
  rintro n_ s ⟨k, hn, hall, rfl⟩
  all_goals refine aS (aS (aR ?_))
  all_goals refine oC (oM rfl (Conv.of rfl) rfl) ?_
  all_goals refine oC (oM rfl (Conv.of rfl) rfl) ?_
  all_goals refine oC (oE sl36 rfl rfl) ?_
  all_goals refine oC (oLt rfl rfl rfl) ?_
  all_goals refine oN ?_
  refine aC rfl (fun h => ?_) (fun h => ?_)
  · have hlt : k < l.length := by simpa using h
    have hx : l[k]? = some l[k] := List.getElem?_eq_getElem hlt
    generalize l[k] = x at hx
    have hs := votesOk_drop hx
    refine aW ?_
    refine aS (aB ?_)
    refine aST (s' := mkSt 26 [(0, .v l), (3, .v (k : Int)), (25, .v (!(voteOk x && !decide (x ∈ l.take k))))] []) ?_ ?_
    · all_goals refine dS ?_
      all_goals refine dC (oM rfl (Conv.of rfl) rfl) ?_
      all_goals refine dC (oM rfl (Conv.of rfl) rfl) ?_
      all_goals refine dC (op_ix sl36 rfl rfl rfl (by omega) hx) ?_
      all_goals refine dC (oDR ty78 rfl rfl) ?_
      all_goals refine dC (oL fb95 (.cons rfl (Conv.of rfl) (.nil _)) (l3Vote_ct _) (aK rfl rfl aK0) rfl rfl) ?_
      all_goals refine dC (op_not rfl rfl) ?_
      all_goals refine dC (oM rfl (Conv.of rfl) rfl) ?_
      all_goals refine dr_split (t := 16) rfl (fun h => ?_) (fun h => ?_)
      all_goals first | refine dC (gF rfl rfl rfl rfl rfl) ?_ | refine dC (gN rfl rfl rfl (oM rfl (Conv.of rfl) rfl)) ?_
      all_goals first | refine dC (gF rfl rfl rfl rfl rfl) ?_ | refine dC (gN rfl rfl rfl (oM rfl (Conv.of rfl) rfl)) ?_
      all_goals first | refine dC (gF rfl rfl rfl rfl rfl) ?_ | refine dC (gN rfl rfl rfl (op_slh sl36 rfl rfl rfl ⟨by omega, by omega⟩)) ?_
      all_goals first | refine dC (gF rfl rfl rfl rfl rfl) ?_ | refine dC (gN rfl rfl rfl (oM rfl (Conv.of rfl) rfl)) ?_
      all_goals first | refine dC (gF rfl rfl rfl rfl rfl) ?_ | refine dC (gN rfl rfl rfl (oM rfl (Conv.of rfl) rfl)) ?_
      all_goals first | refine dC (gF rfl rfl rfl rfl rfl) ?_ | refine dC (gN rfl rfl rfl (op_ix sl36 rfl rfl rfl (by omega) hx)) ?_
      all_goals first | refine dC (gF rfl rfl rfl rfl rfl) ?_ | refine dC (gN rfl rfl rfl (oDR ty78 rfl rfl)) ?_
      all_goals first | refine dC (gF rfl rfl rfl rfl rfl) ?_ | refine dC (gN rfl rfl rfl (oL fb157 (.cons rfl (Conv.of rfl) (.cons rfl (Conv.of rfl) (.nil _))) (l3Has_ct _ _) (aK rfl rfl (aK rfl rfl aK0)) rfl rfl)) ?_
      all_goals refine dC (oQ rfl rfl rfl rfl) ?_
      all_goals refine dr_nil mixed rfl ?_
      all_goals exact Le.mk rfl (tle rfl (rfl) rfl (tle rfl (rfl) rfl (tle rfl (by (clear hall hs; simp_all)) rfl tln))) oln noS
    refine aC rfl (fun h => ?_) (fun h => ?_)
    · all_goals refine aS (aR ?_)
      all_goals refine oC (oA rfl (Conv.of rfl) rfl) ?_
      all_goals refine oN ?_
      refine aT ?_
      repeat first | refine rS ?_ | refine rB ?_
      refine finP (.v rfl (Conv.of rfl)) rfl ?_
      show AV.v false = _
      rw [hall, hs, not_t h, Bool.false_and]
    · refine aW ?_
      all_goals refine aR ?_
      all_goals refine oC (oM rfl (Conv.of rfl) rfl) ?_
      all_goals refine oC (oP rfl rfl rfl (by omega)) ?_
      all_goals refine oC (oA rfl (Conv.of rfl) rfl) ?_
      all_goals refine oN ?_
      repeat first | refine nS ?_ | refine nB ?_
      exact ⟨n_ - 1, _, by omega, ⟨k + 1, by omega, by rw [hall, hs, not_f h, Bool.true_and], rfl⟩, Le.mk rfl (tle rfl (rfl) rfl (tle rfl (rfl) rfl tln)) oln noS⟩
  · refine aE ?_
    repeat refine ex_seq ?_
    refine eB ?_
    have hk : l.length ≤ k := by simpa using h
    all_goals refine aS (aR ?_)
    all_goals refine oC (oA rfl (Conv.of rfl) rfl) ?_
    all_goals refine oN ?_
    refine aT ?_
    repeat first | refine rS ?_ | refine rB ?_
    refine finP (.v rfl (Conv.of rfl)) rfl ?_
    show AV.v true = _
    rw [hall, drop_end hk]; rfl
set_option maxHeartbeats 4000000 in
theorem sNodeOk_ct (n : Nod) : CtP Tryz.prog 99 [.v n] (.v (nodeOk n)) := by
  refine Ct.intro Tryz.func99 rfl rfl ?_
  all_goals refine aS (aR ?_)
  all_goals refine oC (op_box (o := 0) ty66 rfl (Conv.of rfl) rfl rfl) ?_
  all_goals refine oC (oA rfl (Conv.of rfl) rfl) ?_
  all_goals refine oN ?_
  refine aS (aST (s' := mkSt 66 [(1, .box 0 (IsLens.whole Nod)), (34, .v (!nodeOk0 n))] [(0, .cell n)]) ?_ ?_)
  · all_goals refine aR ?_
    all_goals refine oC (oF f66_0 rfl rfl) ?_
    all_goals refine oC (oD ty3 rfl rfl rfl) ?_
    all_goals refine oC (oL fb54 (.cons rfl (Conv.of rfl) (.cons rfl (Conv.of rfl) (.cons rfl (Conv.of rfl) (.nil _)))) (l6In_ct _ _ _) (aK rfl rfl (aK rfl rfl (aK rfl rfl aK0))) rfl rfl) ?_
    all_goals refine oC (op_not rfl rfl) ?_
    all_goals refine oC (oM rfl (Conv.of rfl) rfl) ?_
    all_goals refine g_split (t := 9) rfl (fun h => ?_) (fun h => ?_)
    all_goals first | refine oC (gF rfl rfl rfl rfl rfl) ?_ | refine oC (gN rfl rfl rfl (oF f66_1 rfl rfl)) ?_
    all_goals first | refine oC (gF rfl rfl rfl rfl rfl) ?_ | refine oC (gN rfl rfl rfl (oD ty3 rfl rfl rfl)) ?_
    all_goals first | refine oC (gF rfl rfl rfl rfl rfl) ?_ | refine oC (gN rfl rfl rfl (oL fb54 (.cons rfl (Conv.of rfl) (.cons rfl (Conv.of rfl) (.cons rfl (Conv.of rfl) (.nil _)))) (l6In_ct _ _ _) (aK rfl rfl (aK rfl rfl (aK rfl rfl aK0))) rfl rfl)) ?_
    all_goals first | refine oC (gF rfl rfl rfl rfl rfl) ?_ | refine oC (gN rfl rfl rfl (op_not rfl rfl)) ?_
    all_goals refine oC (oQ rfl rfl rfl rfl) ?_
    all_goals refine oC (oM rfl (Conv.of rfl) rfl) ?_
    all_goals first | refine g_lit (t := 15) (b := true) rfl ?_ | refine g_split (t := 15) rfl (fun h => ?_) (fun h => ?_)
    all_goals first | refine oC (gF rfl rfl rfl rfl rfl) ?_ | refine oC (gN rfl rfl rfl (oF f66_2 rfl rfl)) ?_
    all_goals first | refine oC (gF rfl rfl rfl rfl rfl) ?_ | refine oC (gN rfl rfl rfl (oD ty3 rfl rfl rfl)) ?_
    all_goals first | refine oC (gF rfl rfl rfl rfl rfl) ?_ | refine oC (gN rfl rfl rfl (oF f66_1 rfl rfl)) ?_
    all_goals first | refine oC (gF rfl rfl rfl rfl rfl) ?_ | refine oC (gN rfl rfl rfl (oD ty3 rfl rfl rfl)) ?_
    all_goals first | refine oC (gF rfl rfl rfl rfl rfl) ?_ | refine oC (gN rfl rfl rfl (oL fb54 (.cons rfl (Conv.of rfl) (.cons rfl (Conv.of rfl) (.cons rfl (Conv.of rfl) (.nil _)))) (l6In_ct _ _ _) (aK rfl rfl (aK rfl rfl (aK rfl rfl aK0))) rfl rfl)) ?_
    all_goals first | refine oC (gF rfl rfl rfl rfl rfl) ?_ | refine oC (gN rfl rfl rfl (op_not rfl rfl)) ?_
    all_goals refine oC (oQ rfl rfl rfl rfl) ?_
    all_goals refine oC (oM rfl (Conv.of rfl) rfl) ?_
    all_goals first | refine g_lit (t := 23) (b := true) rfl ?_ | refine g_split (t := 23) rfl (fun h => ?_) (fun h => ?_)
    all_goals first | refine oC (gF rfl rfl rfl rfl rfl) ?_ | refine oC (gN rfl rfl rfl (oF f66_3 rfl rfl)) ?_
    all_goals first | refine oC (gF rfl rfl rfl rfl rfl) ?_ | refine oC (gN rfl rfl rfl (oD ty36 rfl rfl rfl)) ?_
    all_goals first | refine oC (gF rfl rfl rfl rfl rfl) ?_ | refine oC (gN rfl rfl rfl (oE sl36 rfl rfl)) ?_
    all_goals first | refine oC (gF rfl rfl rfl rfl rfl) ?_ | refine oC (gN rfl rfl rfl (op_gtr rfl rfl rfl)) ?_
    all_goals refine oC (oQ rfl rfl rfl rfl) ?_
    all_goals refine oC (oM rfl (Conv.of rfl) rfl) ?_
    all_goals first | refine g_lit (t := 29) (b := true) rfl ?_ | refine g_split (t := 29) rfl (fun h => ?_) (fun h => ?_)
    all_goals first | refine oC (gF rfl rfl rfl rfl rfl) ?_ | refine oC (gN rfl rfl rfl (oF f66_3 rfl rfl)) ?_
    all_goals first | refine oC (gF rfl rfl rfl rfl rfl) ?_ | refine oC (gN rfl rfl rfl (oD ty36 rfl rfl rfl)) ?_
    all_goals first | refine oC (gF rfl rfl rfl rfl rfl) ?_ | refine oC (gN rfl rfl rfl (oL fb130 (.cons rfl (Conv.of rfl) (.nil _)) (sVotesOk_ct _) (aK rfl rfl aK0) rfl rfl)) ?_
    all_goals first | refine oC (gF rfl rfl rfl rfl rfl) ?_ | refine oC (gN rfl rfl rfl (op_not rfl rfl)) ?_
    all_goals refine oC (oQ rfl rfl rfl rfl) ?_
    all_goals refine oN ?_
    all_goals exact Le.mk rfl (tlb rfl rfl rfl (tle rfl (by (show AV.v _ = AV.v _; unfold nodeOk0; simp_all; try omega)) rfl tln)) (olk rfl (by exact bC) oln) noS
  refine aC rfl (fun h => ?_) (fun h => ?_)
  · all_goals refine aS (aR ?_)
    all_goals refine oC (oA rfl (Conv.of rfl) rfl) ?_
    all_goals refine oN ?_
    refine aT ?_
    repeat first | refine rS ?_ | refine rB ?_
    refine finP (.v rfl (Conv.of rfl)) rfl ?_
    show AV.v false = _
    rw [nodeOk, not_t h]; rfl
  · have h0 := not_f h
    have h0' := h0
    simp only [nodeOk0, Bool.and_eq_true] at h0'
    have hvo := votesOk_mem h0'.2
    have hall0 : nodeOk n = !(n.seen.any (late n)) := by rw [nodeOk, h0, Bool.true_and]
    refine aW ?_
    all_goals refine aS (aS (aR ?_))
    all_goals refine oC (oA rfl (Conv.of rfl) rfl) ?_
    all_goals refine oN ?_
    refine aB ?_
    refine awp_loop' (fun n_ s => ∃ (k : Nat), ∃ (hn : n_ + k = n.seen.length), ∃ (hall : nodeOk n = !((n.seen.drop k).any (late n))), s = mkSt 66 [(1, .box 0 (IsLens.whole Nod)), (3, .v (k : Int))] [(0, .cell n)]) (n.seen.length) ⟨0, by omega, hall0, rfl⟩ (Le.mk rfl (tlb rfl rfl rfl (tle rfl (rfl) rfl tln)) (olk rfl (by exact bC) oln) noS) ?_
    rintro n_ s ⟨k, hn, hall, rfl⟩
    all_goals refine aS (aS (aR ?_))
    all_goals refine oC (oM rfl (Conv.of rfl) rfl) ?_
    all_goals refine oC (oF f66_3 rfl rfl) ?_
    all_goals refine oC (oD ty36 rfl rfl rfl) ?_
    refine awpOps_bigL 37 rfl (fun hB => ?_)
    all_goals refine oC (oE sl36 rfl rfl) ?_
    all_goals refine oC (oLt rfl rfl rfl) ?_
    all_goals refine oN ?_
    refine aC rfl (fun h => ?_) (fun h => ?_)
    · have hlt : k < n.seen.length := by simpa using h
      have hx : n.seen[k]? = some n.seen[k] := List.getElem?_eq_getElem hlt
      generalize n.seen[k] = x at hx
      have hp := voteOk_pos (hvo x (List.mem_of_getElem? hx))
      have hcl := chainOk_len (voteOk_chain (hvo x (List.mem_of_getElem? hx)))
      have hd := drop_at hx
      have hy : x.chain[((x.chain.length : Int) - 1).toNat]? = some (x.chain[x.chain.length - 1]'(by omega)) := by
        rw [show ((x.chain.length : Int) - 1).toNat = x.chain.length - 1 by omega]; exact List.getElem?_eq_getElem (by omega)
      have hle : lastEp x.chain = (x.chain[x.chain.length - 1]'(by omega)).epoch := lastEp_get (List.getElem?_eq_getElem (by omega))
      generalize x.chain[x.chain.length - 1]'(by omega) = y at hy hle
      have hlate : late n x = (decide (x.by_ = n.id) && decide (n.voted < y.epoch)) := by unfold late; rw [hle]
      refine aW ?_
      refine aS (aB ?_)
      all_goals refine aS (aR ?_)
      all_goals refine oC (oF f66_3 rfl rfl) ?_
      all_goals refine oC (oD ty36 rfl rfl rfl) ?_
      all_goals refine oC (oM rfl (Conv.of rfl) rfl) ?_
      all_goals refine oC (op_ix sl36 rfl rfl rfl (by omega) hx) ?_
      all_goals refine oC (oDR ty78 rfl rfl) ?_
      all_goals refine oC (oX (o := 1) z78 rfl rfl) ?_
      all_goals refine oC (op_st ty78 rfl rfl (Conv.of rfl) rfl) ?_
      all_goals refine oN ?_
      refine aST (s' := mkSt 66 [(1, .box 0 (IsLens.whole Nod)), (3, .v (k : Int)), (65, .v (late n x))] [(0, .cell n)]) ?_ ?_
      · all_goals refine dS ?_
        all_goals refine dC (oF f78_0 rfl rfl) ?_
        all_goals refine dC (oD ty3 rfl rfl rfl) ?_
        all_goals refine dC (oF f66_0 rfl rfl) ?_
        all_goals refine dC (oD ty3 rfl rfl rfl) ?_
        all_goals refine dC (op_eql rfl rfl rfl) ?_
        all_goals refine dC (oM rfl (Conv.of rfl) rfl) ?_
        all_goals refine dr_split (t := 52) rfl (fun h => ?_) (fun h => ?_)
        all_goals first | refine dC (gF rfl rfl rfl rfl rfl) ?_ | refine dC (gN rfl rfl rfl (oF f78_1 rfl rfl)) ?_
        all_goals first | refine dC (gF rfl rfl rfl rfl rfl) ?_ | refine dC (gN rfl rfl rfl (oD ty72 rfl rfl rfl)) ?_
        all_goals first | refine dC (gF rfl rfl rfl rfl rfl) ?_ | refine dC (gN rfl rfl rfl (oF f78_1 rfl rfl)) ?_
        all_goals first | refine dC (gF rfl rfl rfl rfl rfl) ?_ | refine dC (gN rfl rfl rfl (oD ty72 rfl rfl rfl)) ?_
        all_goals first | refine dC (gF rfl rfl rfl rfl rfl) ?_ | refine dC (gN rfl rfl rfl (oE sl72 rfl rfl)) ?_
        all_goals first | refine dC (gF rfl rfl rfl rfl rfl) ?_ | refine dC (gN rfl rfl rfl (op_sub rfl rfl rfl (by omega))) ?_
        all_goals first | refine dC (gF rfl rfl rfl rfl rfl) ?_ | refine dC (gN rfl rfl rfl (op_ix sl72 rfl rfl rfl (by omega) hy)) ?_
        all_goals first | refine dC (gF rfl rfl rfl rfl rfl) ?_ | refine dC (gN rfl rfl rfl (oFR f74_0 rfl rfl)) ?_
        all_goals first | refine dC (gF rfl rfl rfl rfl rfl) ?_ | refine dC (gN rfl rfl rfl (oDR ty3 rfl rfl)) ?_
        all_goals first | refine dC (gF rfl rfl rfl rfl rfl) ?_ | refine dC (gN rfl rfl rfl (oF f66_2 rfl rfl)) ?_
        all_goals first | refine dC (gF rfl rfl rfl rfl rfl) ?_ | refine dC (gN rfl rfl rfl (oD ty3 rfl rfl rfl)) ?_
        all_goals first | refine dC (gF rfl rfl rfl rfl rfl) ?_ | refine dC (gN rfl rfl rfl (op_gtr rfl rfl rfl)) ?_
        all_goals refine dC (oQ rfl rfl rfl rfl) ?_
        all_goals refine dr_nil mixed rfl ?_
        all_goals exact Le.mk rfl (tlb rfl rfl rfl (tle rfl (rfl) rfl (tle rfl (by (show AV.v _ = AV.v _; rw [hlate]; clear hall hd hall0; simp_all)) rfl tln))) (olk rfl (by exact bC) oln) noS
      refine aC rfl (fun h2 => ?_) (fun h2 => ?_)
      · all_goals refine aS (aR ?_)
        all_goals refine oC (oA rfl (Conv.of rfl) rfl) ?_
        all_goals refine oN ?_
        refine aT ?_
        repeat first | refine rS ?_ | refine rB ?_
        refine finP (.v rfl (Conv.of rfl)) rfl ?_
        show AV.v false = _
        rw [hall, hd, List.any_cons, h2]; rfl
      · refine aW ?_
        all_goals refine aR ?_
        all_goals refine oC (oM rfl (Conv.of rfl) rfl) ?_
        all_goals refine oC (oP rfl rfl rfl (by omega)) ?_
        all_goals refine oC (oA rfl (Conv.of rfl) rfl) ?_
        all_goals refine oN ?_
        repeat first | refine nS ?_ | refine nB ?_
        exact ⟨n_ - 1, _, by omega, ⟨k + 1, by omega, by rw [hall, hd, List.any_cons, h2, Bool.false_or], rfl⟩, Le.mk rfl (tlb rfl rfl rfl (tle rfl (rfl) rfl tln)) (olk rfl (by exact bC) oln) noS⟩
    · refine aE ?_
      repeat refine ex_seq ?_
      refine eB ?_
      have hk : n.seen.length ≤ k := by simpa using h
      all_goals refine aS (aR ?_)
      all_goals refine oC (oA rfl (Conv.of rfl) rfl) ?_
      all_goals refine oN ?_
      refine aT ?_
      repeat first | refine rS ?_ | refine rB ?_
      refine finP (.v rfl (Conv.of rfl)) rfl ?_
      show AV.v true = _
      rw [hall, drop_end hk]; rfl
theorem l21All_ct (w : Wrld) (l : List Vote) : CtP Tryz.prog 131 [.v w, .v l] (.v (!(l.any fun v => !shownB w v))) := by
  refine Ct.intro Tryz.func131 rfl rfl ?_
  refine awp_bigL 1 rfl (fun hB => ?_)
  all_goals refine aS (aR ?_)
  all_goals refine oC (op_box (o := 0) ty38 rfl (Conv.of rfl) rfl rfl) ?_
  all_goals refine oC (oA rfl (Conv.of rfl) rfl) ?_
  all_goals refine oN ?_
  all_goals refine aS (aS (aR ?_))
  all_goals refine oC (oA rfl (Conv.of rfl) rfl) ?_
  all_goals refine oN ?_
  refine aB ?_
  refine awp_loop' (fun n_ s => ∃ (k : Nat), ∃ (hn : n_ + k = l.length), ∃ (hall : (l.any fun v => !shownB w v) = ((l.drop k).any fun v => !shownB w v)), s = mkSt 30 [(1, .v l), (2, .box 0 (IsLens.whole Wrld)), (5, .v (k : Int))] [(0, .cell w)]) (l.length) ⟨0, by omega, rfl, rfl⟩ (Le.mk rfl (tle rfl (rfl) rfl (tlb rfl rfl rfl (tle rfl (rfl) rfl tln))) (olk rfl (by exact bC) oln) noS) ?_
  rintro n_ s ⟨k, hn, hall, rfl⟩
  all_goals refine aS (aS (aR ?_))
  all_goals refine oC (oM rfl (Conv.of rfl) rfl) ?_
  all_goals refine oC (oM rfl (Conv.of rfl) rfl) ?_
  all_goals refine oC (oE sl36 rfl rfl) ?_
  all_goals refine oC (oLt rfl rfl rfl) ?_
  all_goals refine oN ?_
  refine aC rfl (fun h => ?_) (fun h => ?_)
  · have hlt : k < l.length := by simpa using h
    have hx : l[k]? = some l[k] := List.getElem?_eq_getElem hlt
    generalize l[k] = x at hx
    have hd := drop_at hx
    refine aW ?_
    refine aS (aB ?_)
    refine aST (s' := mkSt 30 [(1, .v l), (2, .box 0 (IsLens.whole Wrld)), (5, .v (k : Int)), (29, .v (!shownB w x))] [(0, .cell w)]) ?_ ?_
    · all_goals refine dS ?_
      all_goals refine dC (oM rfl (Conv.of rfl) rfl) ?_
      all_goals refine dC (oM rfl (Conv.of rfl) rfl) ?_
      all_goals refine dC (op_ix sl36 rfl rfl rfl (by omega) hx) ?_
      all_goals refine dC (oFR f78_0 rfl rfl) ?_
      all_goals refine dC (oDR ty3 rfl rfl) ?_
      all_goals refine dC (oF f38_3 rfl rfl) ?_
      all_goals refine dC (oD ty3 rfl rfl rfl) ?_
      all_goals refine dC (op_neq rfl rfl rfl) ?_
      all_goals refine dC (oM rfl (Conv.of rfl) rfl) ?_
      all_goals refine dr_split (t := 20) rfl (fun h => ?_) (fun h => ?_)
      all_goals first | refine dC (gF rfl rfl rfl rfl rfl) ?_ | refine dC (gN rfl rfl rfl (oF f38_2 rfl rfl)) ?_
      all_goals first | refine dC (gF rfl rfl rfl rfl rfl) ?_ | refine dC (gN rfl rfl rfl (oD ty36 rfl rfl rfl)) ?_
      all_goals first | refine dC (gF rfl rfl rfl rfl rfl) ?_ | refine dC (gN rfl rfl rfl (oM rfl (Conv.of rfl) rfl)) ?_
      all_goals first | refine dC (gF rfl rfl rfl rfl rfl) ?_ | refine dC (gN rfl rfl rfl (oM rfl (Conv.of rfl) rfl)) ?_
      all_goals first | refine dC (gF rfl rfl rfl rfl rfl) ?_ | refine dC (gN rfl rfl rfl (op_ix sl36 rfl rfl rfl (by omega) hx)) ?_
      all_goals first | refine dC (gF rfl rfl rfl rfl rfl) ?_ | refine dC (gN rfl rfl rfl (oDR ty78 rfl rfl)) ?_
      all_goals first | refine dC (gF rfl rfl rfl rfl rfl) ?_ | refine dC (gN rfl rfl rfl (oL fb157 (.cons rfl (Conv.of rfl) (.cons rfl (Conv.of rfl) (.nil _))) (l3Has_ct _ _) (aK rfl rfl (aK rfl rfl aK0)) rfl rfl)) ?_
      all_goals first | refine dC (gF rfl rfl rfl rfl rfl) ?_ | refine dC (gN rfl rfl rfl (op_not rfl rfl)) ?_
      all_goals refine dC (oQ rfl rfl rfl rfl) ?_
      all_goals refine dr_nil mixed rfl ?_
      all_goals exact Le.mk rfl (tle rfl (rfl) rfl (tlb rfl rfl rfl (tle rfl (rfl) rfl (tle rfl (by (show AV.v _ = AV.v _; unfold shownB; clear hall hd; simp_all)) rfl tln)))) (olk rfl (by exact bC) oln) noS
    refine aC rfl (fun h2 => ?_) (fun h2 => ?_)
    · all_goals refine aS (aR ?_)
      all_goals refine oC (oA rfl (Conv.of rfl) rfl) ?_
      all_goals refine oN ?_
      refine aT ?_
      repeat first | refine rS ?_ | refine rB ?_
      refine finP (.v rfl (Conv.of rfl)) rfl ?_
      show AV.v false = _
      rw [hall, hd, List.any_cons, h2]; rfl
    · refine aW ?_
      all_goals refine aR ?_
      all_goals refine oC (oM rfl (Conv.of rfl) rfl) ?_
      all_goals refine oC (oP rfl rfl rfl (by omega)) ?_
      all_goals refine oC (oA rfl (Conv.of rfl) rfl) ?_
      all_goals refine oN ?_
      repeat first | refine nS ?_ | refine nB ?_
      exact ⟨n_ - 1, _, by omega, ⟨k + 1, by omega, by rw [hall, hd, List.any_cons, h2, Bool.false_or], rfl⟩, Le.mk rfl (tle rfl (rfl) rfl (tlb rfl rfl rfl (tle rfl (rfl) rfl tln))) (olk rfl (by exact bC) oln) noS⟩
  · refine aE ?_
    repeat refine ex_seq ?_
    refine eB ?_
    have hk : l.length ≤ k := by simpa using h
    all_goals refine aS (aR ?_)
    all_goals refine oC (oA rfl (Conv.of rfl) rfl) ?_
    all_goals refine oN ?_
    refine aT ?_
    repeat first | refine rS ?_ | refine rB ?_
    refine finP (.v rfl (Conv.of rfl)) rfl ?_
    show AV.v true = _
    rw [hall, drop_end hk]; rfl
set_option maxHeartbeats 4000000 in
theorem sWorldOk_ct (w : Wrld) : CtP Tryz.prog 96 [.v w] (.v (worldOk w)) := by
  refine Ct.intro Tryz.func96 rfl rfl ?_
  all_goals refine aS (aR ?_)
  all_goals refine oC (op_box (o := 0) ty38 rfl (Conv.of rfl) rfl rfl) ?_
  all_goals refine oC (oA rfl (Conv.of rfl) rfl) ?_
  all_goals refine oN ?_
  refine aS (aST (s' := mkSt 69 [(1, .box 0 (IsLens.whole Wrld)), (32, .v (!worldOk0 w))] [(0, .cell w)]) ?_ ?_)
  · all_goals refine aR ?_
    all_goals refine oC (oF f38_0 rfl rfl) ?_
    all_goals refine oC (oD ty3 rfl rfl rfl) ?_
    all_goals refine oC (oL fb54 (.cons rfl (Conv.of rfl) (.cons rfl (Conv.of rfl) (.cons rfl (Conv.of rfl) (.nil _)))) (l6In_ct _ _ _) (aK rfl rfl (aK rfl rfl (aK rfl rfl aK0))) rfl rfl) ?_
    all_goals refine oC (op_not rfl rfl) ?_
    all_goals refine oC (oM rfl (Conv.of rfl) rfl) ?_
    all_goals refine g_split (t := 9) rfl (fun h => ?_) (fun h => ?_)
    all_goals first | refine oC (gF rfl rfl rfl rfl rfl) ?_ | refine oC (gN rfl rfl rfl (oF f38_3 rfl rfl)) ?_
    all_goals first | refine oC (gF rfl rfl rfl rfl rfl) ?_ | refine oC (gN rfl rfl rfl (oD ty3 rfl rfl rfl)) ?_
    all_goals first | refine oC (gF rfl rfl rfl rfl rfl) ?_ | refine oC (gN rfl rfl rfl (oL fb54 (.cons rfl (Conv.of rfl) (.cons rfl (Conv.of rfl) (.cons rfl (Conv.of rfl) (.nil _)))) (l6In_ct _ _ _) (aK rfl rfl (aK rfl rfl (aK rfl rfl aK0))) rfl rfl)) ?_
    all_goals first | refine oC (gF rfl rfl rfl rfl rfl) ?_ | refine oC (gN rfl rfl rfl (op_not rfl rfl)) ?_
    all_goals refine oC (oQ rfl rfl rfl rfl) ?_
    all_goals refine oC (oM rfl (Conv.of rfl) rfl) ?_
    all_goals first | refine g_lit (t := 15) (b := true) rfl ?_ | refine g_split (t := 15) rfl (fun h => ?_) (fun h => ?_)
    all_goals first | refine oC (gF rfl rfl rfl rfl rfl) ?_ | refine oC (gN rfl rfl rfl (oF f38_1 rfl rfl)) ?_
    all_goals first | refine oC (gF rfl rfl rfl rfl rfl) ?_ | refine oC (gN rfl rfl rfl (oD ty35 rfl rfl rfl)) ?_
    all_goals first | refine oC (gF rfl rfl rfl rfl rfl) ?_ | refine oC (gN rfl rfl rfl (oE sl35 rfl rfl)) ?_
    all_goals first | refine oC (gF rfl rfl rfl rfl rfl) ?_ | refine oC (gN rfl rfl rfl (op_neq rfl rfl rfl)) ?_
    all_goals refine oC (oQ rfl rfl rfl rfl) ?_
    all_goals refine oC (oM rfl (Conv.of rfl) rfl) ?_
    all_goals first | refine g_lit (t := 21) (b := true) rfl ?_ | refine g_split (t := 21) rfl (fun h => ?_) (fun h => ?_)
    all_goals first | refine oC (gF rfl rfl rfl rfl rfl) ?_ | refine oC (gN rfl rfl rfl (oF f38_2 rfl rfl)) ?_
    all_goals first | refine oC (gF rfl rfl rfl rfl rfl) ?_ | refine oC (gN rfl rfl rfl (oD ty36 rfl rfl rfl)) ?_
    all_goals first | refine oC (gF rfl rfl rfl rfl rfl) ?_ | refine oC (gN rfl rfl rfl (oE sl36 rfl rfl)) ?_
    all_goals first | refine oC (gF rfl rfl rfl rfl rfl) ?_ | refine oC (gN rfl rfl rfl (op_gtr rfl rfl rfl)) ?_
    all_goals refine oC (oQ rfl rfl rfl rfl) ?_
    all_goals refine oC (oM rfl (Conv.of rfl) rfl) ?_
    all_goals first | refine g_lit (t := 27) (b := true) rfl ?_ | refine g_split (t := 27) rfl (fun h => ?_) (fun h => ?_)
    all_goals first | refine oC (gF rfl rfl rfl rfl rfl) ?_ | refine oC (gN rfl rfl rfl (oF f38_2 rfl rfl)) ?_
    all_goals first | refine oC (gF rfl rfl rfl rfl rfl) ?_ | refine oC (gN rfl rfl rfl (oD ty36 rfl rfl rfl)) ?_
    all_goals first | refine oC (gF rfl rfl rfl rfl rfl) ?_ | refine oC (gN rfl rfl rfl (oL fb130 (.cons rfl (Conv.of rfl) (.nil _)) (sVotesOk_ct _) (aK rfl rfl aK0) rfl rfl)) ?_
    all_goals first | refine oC (gF rfl rfl rfl rfl rfl) ?_ | refine oC (gN rfl rfl rfl (op_not rfl rfl)) ?_
    all_goals refine oC (oQ rfl rfl rfl rfl) ?_
    all_goals refine oN ?_
    all_goals exact Le.mk rfl (tlb rfl rfl rfl (tle rfl (by (show AV.v _ = AV.v _; unfold worldOk0; simp_all; try omega)) rfl tln)) (olk rfl (by exact bC) oln) noS
  refine aC rfl (fun h => ?_) (fun h => ?_)
  · all_goals refine aS (aR ?_)
    all_goals refine oC (oA rfl (Conv.of rfl) rfl) ?_
    all_goals refine oN ?_
    refine aT ?_
    repeat first | refine rS ?_ | refine rB ?_
    refine finP (.v rfl (Conv.of rfl)) rfl ?_
    show AV.v false = _
    simp [worldOk, not_t h]
  · have h0 := not_f h
    have heq : worldOk w = nodesOkFrom w w.nodes 0 := by rw [worldOk, h0, Bool.true_and]
    have h04 : w.nodes.length = 4 := by have := h0; simp only [worldOk0, Bool.and_eq_true, decide_eq_true_eq] at this; exact this.1.1.2
    refine aW ?_
    all_goals refine aS (aS (aR ?_))
    all_goals refine oC (oA rfl (Conv.of rfl) rfl) ?_
    all_goals refine oN ?_
    refine aB ?_
    refine awp_loop' (fun n_ s => ∃ (k : Nat), ∃ (hn : n_ + k = 4), ∃ (hall : worldOk w = nodesOkFrom w (w.nodes.drop k) k), s = mkSt 69 [(1, .box 0 (IsLens.whole Wrld)), (3, .v (k : Int))] [(0, .cell w)]) (4) ⟨0, by omega, heq, rfl⟩ (Le.mk rfl (tlb rfl rfl rfl (tle rfl (rfl) rfl tln)) (olk rfl (by exact bC) oln) noS) ?_
    rintro n_ s ⟨k, hn, hall, rfl⟩
    all_goals refine aS (aS (aR ?_))
    all_goals refine oC (oM rfl (Conv.of rfl) rfl) ?_
    all_goals refine oC (oF f38_1 rfl rfl) ?_
    all_goals refine oC (oD ty35 rfl rfl rfl) ?_
    all_goals refine oC (oE sl35 rfl rfl) ?_
    all_goals refine oC (oLt rfl rfl rfl) ?_
    all_goals refine oN ?_
    refine aC rfl (fun h => ?_) (fun h => ?_)
    · have hlt : k < w.nodes.length := by simpa using h
      have hx : w.nodes[k]? = some w.nodes[k] := List.getElem?_eq_getElem hlt
      generalize w.nodes[k] = a at hx
      have hs := nodesOk_drop (w := w) hx
      refine aW ?_
      refine aS (aB ?_)
      all_goals refine aS (aR ?_)
      all_goals refine oC (oF f38_1 rfl rfl) ?_
      all_goals refine oC (oD ty35 rfl rfl rfl) ?_
      all_goals refine oC (oM rfl (Conv.of rfl) rfl) ?_
      all_goals refine oC (op_ix sl35 rfl rfl rfl (by omega) hx) ?_
      all_goals refine oC (oDR ty66 rfl rfl) ?_
      all_goals refine oC (oX (o := 1) z66 rfl rfl) ?_
      all_goals refine oC (op_st ty66 rfl rfl (Conv.of rfl) rfl) ?_
      all_goals refine oN ?_
      refine aST (s' := mkSt 69 [(1, .box 0 (IsLens.whole Wrld)), (3, .v (k : Int)), (68, .v (!nodeIn w k a))] [(0, .cell w)]) ?_ ?_
      · all_goals refine aR ?_
        all_goals refine oC (oD ty66 rfl rfl rfl) ?_
        all_goals refine oC (oL fb99 (.cons rfl (Conv.of rfl) (.nil _)) (sNodeOk_ct _) (aK rfl rfl aK0) rfl rfl) ?_
        all_goals refine oC (op_not rfl rfl) ?_
        all_goals refine oC (oM rfl (Conv.of rfl) rfl) ?_
        all_goals refine g_split (t := 48) rfl (fun h => ?_) (fun h => ?_)
        all_goals first | refine oC (gF rfl rfl rfl rfl rfl) ?_ | refine oC (gN rfl rfl rfl (oF f66_0 rfl rfl)) ?_
        all_goals first | refine oC (gF rfl rfl rfl rfl rfl) ?_ | refine oC (gN rfl rfl rfl (oD ty3 rfl rfl rfl)) ?_
        all_goals first | refine oC (gF rfl rfl rfl rfl rfl) ?_ | refine oC (gN rfl rfl rfl (oM rfl (Conv.of rfl) rfl)) ?_
        all_goals first | refine oC (gF rfl rfl rfl rfl rfl) ?_ | refine oC (gN rfl rfl rfl (oP rfl rfl rfl (by omega))) ?_
        all_goals first | refine oC (gF rfl rfl rfl rfl rfl) ?_ | refine oC (gN rfl rfl rfl (op_neq rfl rfl rfl)) ?_
        all_goals refine oC (oQ rfl rfl rfl rfl) ?_
        all_goals refine oC (oM rfl (Conv.of rfl) rfl) ?_
        all_goals first | refine g_lit (t := 55) (b := true) rfl ?_ | refine g_split (t := 55) rfl (fun h => ?_) (fun h => ?_)
        all_goals first | refine oC (gF rfl rfl rfl rfl rfl) ?_ | refine oC (gN rfl rfl rfl (oF f66_1 rfl rfl)) ?_
        all_goals first | refine oC (gF rfl rfl rfl rfl rfl) ?_ | refine oC (gN rfl rfl rfl (oD ty3 rfl rfl rfl)) ?_
        all_goals first | refine oC (gF rfl rfl rfl rfl rfl) ?_ | refine oC (gN rfl rfl rfl (oF f38_0 rfl rfl)) ?_
        all_goals first | refine oC (gF rfl rfl rfl rfl rfl) ?_ | refine oC (gN rfl rfl rfl (oD ty3 rfl rfl rfl)) ?_
        all_goals first | refine oC (gF rfl rfl rfl rfl rfl) ?_ | refine oC (gN rfl rfl rfl (op_neq rfl rfl rfl)) ?_
        all_goals refine oC (oQ rfl rfl rfl rfl) ?_
        all_goals refine oC (oM rfl (Conv.of rfl) rfl) ?_
        all_goals first | refine g_lit (t := 62) (b := true) rfl ?_ | refine g_split (t := 62) rfl (fun h => ?_) (fun h => ?_)
        all_goals first | refine oC (gF rfl rfl rfl rfl rfl) ?_ | refine oC (gN rfl rfl rfl (oD ty38 rfl rfl rfl)) ?_
        all_goals first | refine oC (gF rfl rfl rfl rfl rfl) ?_ | refine oC (gN rfl rfl rfl (oF f66_3 rfl rfl)) ?_
        all_goals first | refine oC (gF rfl rfl rfl rfl rfl) ?_ | refine oC (gN rfl rfl rfl (oD ty36 rfl rfl rfl)) ?_
        all_goals first | refine oC (gF rfl rfl rfl rfl rfl) ?_ | refine oC (gN rfl rfl rfl (oL fb131 (.cons rfl (Conv.of rfl) (.cons rfl (Conv.of rfl) (.nil _))) (l21All_ct _ _) (aK rfl rfl (aK rfl rfl aK0)) rfl rfl)) ?_
        all_goals first | refine oC (gF rfl rfl rfl rfl rfl) ?_ | refine oC (gN rfl rfl rfl (op_not rfl rfl)) ?_
        all_goals refine oC (oQ rfl rfl rfl rfl) ?_
        all_goals refine oN ?_
        all_goals exact Le.mk rfl (tlb rfl rfl rfl (tle rfl (rfl) rfl (tle rfl (by (show AV.v _ = AV.v _; unfold nodeIn; clear hall hs; simp_all)) rfl tln))) (olk rfl (by exact bC) oln) noS
      refine aC rfl (fun h2 => ?_) (fun h2 => ?_)
      · all_goals refine aS (aR ?_)
        all_goals refine oC (oA rfl (Conv.of rfl) rfl) ?_
        all_goals refine oN ?_
        refine aT ?_
        repeat first | refine rS ?_ | refine rB ?_
        refine finP (.v rfl (Conv.of rfl)) rfl ?_
        show AV.v false = _
        rw [hall, hs, not_t h2, Bool.false_and]
      · refine aW ?_
        all_goals refine aR ?_
        all_goals refine oC (oM rfl (Conv.of rfl) rfl) ?_
        all_goals refine oC (oP rfl rfl rfl (by omega)) ?_
        all_goals refine oC (oA rfl (Conv.of rfl) rfl) ?_
        all_goals refine oN ?_
        repeat first | refine nS ?_ | refine nB ?_
        exact ⟨n_ - 1, _, by omega, ⟨k + 1, by omega, by rw [hall, hs, not_f h2, Bool.true_and], rfl⟩, Le.mk rfl (tlb rfl rfl rfl (tle rfl (rfl) rfl tln)) (olk rfl (by exact bC) oln) noS⟩
    · refine aE ?_
      repeat refine ex_seq ?_
      refine eB ?_
      have hk : w.nodes.length ≤ k := by simpa using h
      all_goals refine aS (aR ?_)
      all_goals refine oC (oA rfl (Conv.of rfl) rfl) ?_
      all_goals refine oN ?_
      refine aT ?_
      repeat first | refine rS ?_ | refine rB ?_
      refine finP (.v rfl (Conv.of rfl)) rfl ?_
      show AV.v true = _
      rw [hall, drop_end hk]; rfl
theorem l3Copy_ct (l : List Vote) (hl : l.length ≤ 1000000) (hv : ∀ v ∈ l, v.chain.length ≤ 1000000) : CtP Tryz.prog 132 [.v l] (.v (OList.mk l true)) := by
  refine Ct.intro Tryz.func132 rfl rfl ?_
  refine aS (aR ?_)
  refine oC (oA rfl (Conv.of rfl) rfl) ?_
  refine oN ?_
  refine aS (aR ?_)
  refine oC (op_bsl sl36 z78 (.nil _) rfl (by decide) rfl) ?_
  refine oC (op_asl rfl rfl rfl rfl) ?_
  refine oN ?_
  refine aS (aS (aR ?_))
  refine oC (oA rfl (Conv.of rfl) rfl) ?_
  refine oN ?_
  refine aB ?_
  refine awp_loop' (fun n_ s => ∃ (k : Nat), ∃ (hn : n_ + k = l.length), s = mkSt 21 [(0, .v l), (3, .v (OList.mk (l.take k) true)), (4, .v (k : Int))] []) (l.length) ⟨0, by omega, rfl⟩ (Le.mk rfl (tle rfl (rfl) rfl (tle rfl (by rfl) rfl (tle rfl (rfl) rfl tln))) oln noS) ?_
  rintro n_ s ⟨k, hn, rfl⟩
  refine aS (aS (aR ?_))
  refine oC (oM rfl (Conv.of rfl) rfl) ?_
  refine oC (oM rfl (Conv.of rfl) rfl) ?_
  refine oC (oE sl36 rfl rfl) ?_
  refine oC (oLt rfl rfl rfl) ?_
  refine oN ?_
  refine aC rfl (fun h => ?_) (fun h => ?_)
  · have hlt : k < l.length := by simpa using h
    have hx : l[k]? = some l[k] := List.getElem?_eq_getElem hlt
    have hvk := hv _ (List.getElem_mem hlt)
    generalize l[k] = x at hx hvk
    refine aW ?_
    refine aS (aB ?_)
    refine aR ?_
    refine oC (op_mvl rfl rfl rfl rfl) ?_
    refine oC (oM rfl (Conv.of rfl) rfl) ?_
    refine oC (oM rfl (Conv.of rfl) rfl) ?_
    refine oC (op_ix sl36 rfl rfl rfl (by omega) hx) ?_
    refine oC (oDR ty78 rfl rfl) ?_
    refine oC (oL fb156 (.cons rfl (Conv.of rfl) (.nil _)) (l3VoteCopy_ct x hvk) (aK rfl rfl aK0) rfl rfl) ?_
    refine oC (op_bsl sl36 z78 (.cons rfl (Conv.of rfl) (.nil _)) rfl (by decide) rfl) ?_
    refine oC (op_app sl36 z78 ul36 rfl rfl rfl (by (simp; omega)) (by (simp; omega)) rfl rfl) ?_
    refine oC (op_asl rfl rfl rfl rfl) ?_
    refine oN ?_
    refine aR ?_
    refine oC (oM rfl (Conv.of rfl) rfl) ?_
    refine oC (oP rfl rfl rfl (by omega)) ?_
    refine oC (oA rfl (Conv.of rfl) rfl) ?_
    refine oN ?_
    repeat first | refine nS ?_ | refine nB ?_
    exact ⟨n_ - 1, _, by omega, ⟨k + 1, by omega, rfl⟩, Le.mk rfl (tle rfl (rfl) rfl (tle rfl (by (rw [take_at hx])) rfl (tle rfl (rfl) rfl tln))) oln noS⟩
  · refine aE ?_
    repeat refine ex_seq ?_
    refine eB ?_
    have hk : l.length ≤ k := by simpa using h
    refine aS (aR ?_)
    refine oC (op_mvl rfl rfl rfl rfl) ?_
    refine oC (op_asl rfl rfl rfl rfl) ?_
    refine oN ?_
    refine aT ?_
    repeat first | refine rS ?_ | refine rB ?_
    exact finM rfl rfl (by rw [take_end hk])
theorem l12Copy_ct (n : Nod) (hl : n.seen.length ≤ 1000000) (hv : ∀ v ∈ n.seen, v.chain.length ≤ 1000000) : CtP Tryz.prog 133 [.v n] (.v (sN n)) := by
  refine Ct.intro Tryz.func133 rfl rfl ?_
  refine aS (aR ?_)
  refine oC (op_box (o := 0) ty66 rfl (Conv.of rfl) rfl rfl) ?_
  refine oC (oX (o := 1) z66_NodS rfl rfl) ?_
  refine oN ?_
  refine awp_recell (o := 0) (tb := 1) (β := NodS) (y := fN n) rfl rfl (fun G w ω cs h => nod_fN h) ?_
  refine aS (aR ?_)
  refine oC (oF f66_3_NodS rfl rfl) ?_
  refine oC (op_ldl ty36_OListVote rfl rfl rfl) ?_
  refine oC (oL fb132 (.cons rfl (Conv.of rfl) (.nil _)) (l3Copy_ct n.seen hl hv) (aK rfl rfl aK0) rfl rfl) ?_
  refine oC (oF f66_3_NodS rfl rfl) ?_
  refine oC (op_stm ty36_OListVote rfl rfl rfl) ?_
  refine oN ?_
  refine aS (aR ?_)
  refine oC (op_ldm tN rfl rfl rfl) ?_
  refine oC (op_stm tN rfl rfl rfl) ?_
  refine oN ?_
  refine aT ?_
  repeat first | refine rS ?_ | refine rB ?_
  exact ⟨_, _, res1C (ol := []) tN rfl rfl (fun o ho => absurd (show o ∈ ([] : List Nat) from ho) (by simp)) oln noS, rfl, rfl⟩
end Go.Proofs.YtgfoeiieopnlaaaGreatDoor

/- The reference: a world anew. -/
set_option linter.unusedVariables false
set_option linter.unusedSimpArgs false
namespace Go.Proofs.YtgfoeiieopnlaaaGreatDoor
open Go Go.Wt
set_option maxHeartbeats 4000000 in
theorem l21Copy4_ct (e : Int) (a b c d : Nod) (l : List Vote) (bd : Int) (hl : Gd l) (ha : Gd a.seen) (hb : Gd b.seen) (hc : Gd c.seen) (hd : Gd d.seen) :
    Ct Tryz.prog 97 [.v (Wrld.mk e [a, b, c, d] l bd)] noObj (fun r1 h1 => r1 = .v (WrldS.mk e (.ref 1) ⟨l, true⟩ bd) ∧ h1 = obs [(1, .arr ([sN a, sN b, sN c, sN d] : List NodS))]) := by
  refine Ct.intro Tryz.func97 rfl rfl ?_
  refine aS (aR ?_)
  refine oC (op_box (o := 20) ty38 rfl (Conv.of rfl) rfl rfl) ?_
  refine oC (oX (o := 5) z38_WrldS rfl rfl) ?_
  refine oN ?_
  refine aS (dS ?_)
  refine dC (oF f38_0 rfl rfl) ?_
  refine dC (oD ty3 rfl rfl rfl) ?_
  refine dC (oF f38_2 rfl rfl) ?_
  refine dC (oD ty36 rfl rfl rfl) ?_
  refine dC (oL fb132 (.cons rfl (Conv.of rfl) (.nil _)) (l3Copy_ct l hl.l' hl.v) (aK rfl rfl aK0) rfl rfl) ?_
  refine dC (oF f38_3 rfl rfl) ?_
  refine dC (oD ty3 rfl rfl rfl) ?_
  refine dC (op_buildW (s := 9) (r := 5) (d := 12) (l := l) (e := e) (bd := bd) rfl rfl rfl (one_box rfl) (fun hv => .cons f38_0_WrldH rfl (Conv.of rfl) (.cons f38_2_WrldH rfl (Conv.of rfl) (.cons f38_3_WrldH rfl (Conv.of rfl) (.nil _)))) z38_WrldH pl38 rfl) ?_
  refine dC (oX (o := 0) z38_WrldS rfl rfl) ?_
  refine dC (op_stm tW rfl rfl rfl) ?_
  refine dr_nil mixed rfl ?_
  refine aS (aS (aR ?_))
  refine oC (oA rfl (Conv.of rfl) rfl) ?_
  refine oN ?_
  refine aB ?_
  refine awp_loop' (fun n s => (n = 4 ∧ s = mkSt 32 [(1, .box 20 (IsLens.whole Wrld)), (2, .box 5 (IsLens.whole WrldS)), (3, .box 0 (IsLens.whole WrldS)), (4, .v (0 : Int))] [(0, .cell (WrldS.mk e .nil ⟨l, true⟩ bd)), (5, .cell WrldS.zero), (20, .cell (Wrld.mk e [a, b, c, d] l bd))]) ∨ (n = 3 ∧ s = mkSt 32 [(1, .box 20 (IsLens.whole Wrld)), (2, .box 5 (IsLens.whole WrldS)), (3, .box 0 (IsLens.whole WrldS)), (4, .v (1 : Int))] [(0, .cell (WrldS.mk e (.ref 11) ⟨l, true⟩ bd)), (5, .cell WrldS.zero), (20, .cell (Wrld.mk e [a, b, c, d] l bd)), (11, .arr ([sN a] : List NodS))]) ∨ (n = 2 ∧ s = mkSt 32 [(1, .box 20 (IsLens.whole Wrld)), (2, .box 5 (IsLens.whole WrldS)), (3, .box 0 (IsLens.whole WrldS)), (4, .v (2 : Int))] [(0, .cell (WrldS.mk e (.ref 12) ⟨l, true⟩ bd)), (5, .cell WrldS.zero), (20, .cell (Wrld.mk e [a, b, c, d] l bd)), (12, .arr ([sN a, sN b] : List NodS))]) ∨ (n = 1 ∧ s = mkSt 32 [(1, .box 20 (IsLens.whole Wrld)), (2, .box 5 (IsLens.whole WrldS)), (3, .box 0 (IsLens.whole WrldS)), (4, .v (3 : Int))] [(0, .cell (WrldS.mk e (.ref 13) ⟨l, true⟩ bd)), (5, .cell WrldS.zero), (20, .cell (Wrld.mk e [a, b, c, d] l bd)), (13, .arr ([sN a, sN b, sN c] : List NodS))]) ∨ (n = 0 ∧ s = mkSt 32 [(1, .box 20 (IsLens.whole Wrld)), (2, .box 5 (IsLens.whole WrldS)), (3, .box 0 (IsLens.whole WrldS)), (4, .v (4 : Int))] [(0, .cell (WrldS.mk e (.ref 1) ⟨l, true⟩ bd)), (5, .cell WrldS.zero), (20, .cell (Wrld.mk e [a, b, c, d] l bd)), (1, .arr ([sN a, sN b, sN c, sN d] : List NodS))])) 4 (.inl ⟨rfl, rfl⟩) (Le.mk rfl (tlb rfl rfl rfl (tlb rfl rfl rfl (tlb rfl rfl rfl (tle rfl (rfl) rfl tln)))) (olk rfl (by exact obOkS0) (olk rfl (by exact obOkS0) (olk rfl (by exact bC) oln))) noS) ?_
  rintro n s (⟨rfl, rfl⟩|⟨rfl, rfl⟩|⟨rfl, rfl⟩|⟨rfl, rfl⟩|⟨rfl, rfl⟩)
  · refine aS (aS (aR ?_))
    refine oC (oM rfl (Conv.of rfl) rfl) ?_
    refine oC (oF f38_1 rfl rfl) ?_
    refine oC (oD ty35 rfl rfl rfl) ?_
    refine oC (oE sl35 rfl rfl) ?_
    refine oC (oLt rfl rfl rfl) ?_
    refine oN ?_
    refine aC rfl (fun h => ?_) (fun h => ?_)
    rotate_left
    · simp at h
    refine aW ?_
    refine aS (aB ?_)
    have hx : ([a, b, c, d] : List Nod)[0]? = some a := rfl
    refine dS ?_
    refine dC (oF f38_1_WrldS rfl rfl) ?_
    refine dC (oD ty35_NRef rfl rfl rfl) ?_
    refine dC (oF f38_1 rfl rfl) ?_
    refine dC (oD ty35 rfl rfl rfl) ?_
    refine dC (oM rfl (Conv.of rfl) rfl) ?_
    refine dC (op_ix sl35 rfl rfl rfl (by omega) hx) ?_
    refine dC (oDR ty66 rfl rfl) ?_
    refine dC (oL fb133 (.cons rfl (Conv.of rfl) (.nil _)) (l12Copy_ct a ha.l' ha.v) (aK rfl rfl aK0) rfl rfl) ?_
    refine dC (op_bsm (s := 27) (d := 28) (o := 31) sl35_NodS z66_NodS rfl rfl rfl (by decide) rfl) ?_
    refine dC (op_apMN (o2 := 31) (o' := 11) sl35_NodS z66_NodS ul35 rfl rfl rfl rfl (by simp) (by simp) (by simp) rfl) ?_
    refine dC (oF f38_1_WrldS rfl rfl) ?_
    refine dC (op_st ty35_NRef rfl rfl (Conv.of rfl) rfl) ?_
    refine dr_nil mixed rfl ?_
    refine aR ?_
    refine oC (oM rfl (Conv.of rfl) rfl) ?_
    refine oC (oP rfl rfl rfl (by omega)) ?_
    refine oC (oA rfl (Conv.of rfl) rfl) ?_
    refine oN ?_
    repeat first | refine nS ?_ | refine nB ?_
    exact ⟨3, _, by decide, .inr (.inl ⟨rfl, rfl⟩), Le.mk rfl (tlb rfl rfl rfl (tlb rfl rfl rfl (tlb rfl rfl rfl (tle rfl (rfl) rfl tln)))) (olk rfl (by exact obOkS rfl) (olk rfl (by exact obOkS0) (olk rfl (by exact bC) (olk rfl (by exact bN) oln)))) noS⟩
  · refine aS (aS (aR ?_))
    refine oC (oM rfl (Conv.of rfl) rfl) ?_
    refine oC (oF f38_1 rfl rfl) ?_
    refine oC (oD ty35 rfl rfl rfl) ?_
    refine oC (oE sl35 rfl rfl) ?_
    refine oC (oLt rfl rfl rfl) ?_
    refine oN ?_
    refine aC rfl (fun h => ?_) (fun h => ?_)
    rotate_left
    · simp at h
    refine aW ?_
    refine aS (aB ?_)
    have hx : ([a, b, c, d] : List Nod)[1]? = some b := rfl
    refine dS ?_
    refine dC (oF f38_1_WrldS rfl rfl) ?_
    refine dC (oD ty35_NRef rfl rfl rfl) ?_
    refine dC (oF f38_1 rfl rfl) ?_
    refine dC (oD ty35 rfl rfl rfl) ?_
    refine dC (oM rfl (Conv.of rfl) rfl) ?_
    refine dC (op_ix sl35 rfl rfl rfl (by omega) hx) ?_
    refine dC (oDR ty66 rfl rfl) ?_
    refine dC (oL fb133 (.cons rfl (Conv.of rfl) (.nil _)) (l12Copy_ct b hb.l' hb.v) (aK rfl rfl aK0) rfl rfl) ?_
    refine dC (op_bsm (s := 27) (d := 28) (o := 32) sl35_NodS z66_NodS rfl rfl rfl (by decide) rfl) ?_
    refine dC (op_apMA (o := 11) (o2 := 32) (o' := 12) sl35_NodS z66_NodS ul35 rfl rfl rfl rfl rfl rfl (by simp) (by simp) (by simp) rfl) ?_
    refine dC (oF f38_1_WrldS rfl rfl) ?_
    refine dC (op_st ty35_NRef rfl rfl (Conv.of rfl) rfl) ?_
    refine dr_nil mixed rfl ?_
    refine aR ?_
    refine oC (oM rfl (Conv.of rfl) rfl) ?_
    refine oC (oP rfl rfl rfl (by omega)) ?_
    refine oC (oA rfl (Conv.of rfl) rfl) ?_
    refine oN ?_
    repeat first | refine nS ?_ | refine nB ?_
    exact ⟨2, _, by decide, .inr (.inr (.inl ⟨rfl, rfl⟩)), Le.mk rfl (tlb rfl rfl rfl (tlb rfl rfl rfl (tlb rfl rfl rfl (tle rfl (rfl) rfl tln)))) (olk rfl (by exact obOkS rfl) (olk rfl (by exact obOkS0) (olk rfl (by exact bC) (olk rfl (by exact bN) oln)))) noS⟩
  · refine aS (aS (aR ?_))
    refine oC (oM rfl (Conv.of rfl) rfl) ?_
    refine oC (oF f38_1 rfl rfl) ?_
    refine oC (oD ty35 rfl rfl rfl) ?_
    refine oC (oE sl35 rfl rfl) ?_
    refine oC (oLt rfl rfl rfl) ?_
    refine oN ?_
    refine aC rfl (fun h => ?_) (fun h => ?_)
    rotate_left
    · simp at h
    refine aW ?_
    refine aS (aB ?_)
    have hx : ([a, b, c, d] : List Nod)[2]? = some c := rfl
    refine dS ?_
    refine dC (oF f38_1_WrldS rfl rfl) ?_
    refine dC (oD ty35_NRef rfl rfl rfl) ?_
    refine dC (oF f38_1 rfl rfl) ?_
    refine dC (oD ty35 rfl rfl rfl) ?_
    refine dC (oM rfl (Conv.of rfl) rfl) ?_
    refine dC (op_ix sl35 rfl rfl rfl (by omega) hx) ?_
    refine dC (oDR ty66 rfl rfl) ?_
    refine dC (oL fb133 (.cons rfl (Conv.of rfl) (.nil _)) (l12Copy_ct c hc.l' hc.v) (aK rfl rfl aK0) rfl rfl) ?_
    refine dC (op_bsm (s := 27) (d := 28) (o := 33) sl35_NodS z66_NodS rfl rfl rfl (by decide) rfl) ?_
    refine dC (op_apMA (o := 12) (o2 := 33) (o' := 13) sl35_NodS z66_NodS ul35 rfl rfl rfl rfl rfl rfl (by simp) (by simp) (by simp) rfl) ?_
    refine dC (oF f38_1_WrldS rfl rfl) ?_
    refine dC (op_st ty35_NRef rfl rfl (Conv.of rfl) rfl) ?_
    refine dr_nil mixed rfl ?_
    refine aR ?_
    refine oC (oM rfl (Conv.of rfl) rfl) ?_
    refine oC (oP rfl rfl rfl (by omega)) ?_
    refine oC (oA rfl (Conv.of rfl) rfl) ?_
    refine oN ?_
    repeat first | refine nS ?_ | refine nB ?_
    exact ⟨1, _, by decide, .inr (.inr (.inr (.inl ⟨rfl, rfl⟩))), Le.mk rfl (tlb rfl rfl rfl (tlb rfl rfl rfl (tlb rfl rfl rfl (tle rfl (rfl) rfl tln)))) (olk rfl (by exact obOkS rfl) (olk rfl (by exact obOkS0) (olk rfl (by exact bC) (olk rfl (by exact bN) oln)))) noS⟩
  · refine aS (aS (aR ?_))
    refine oC (oM rfl (Conv.of rfl) rfl) ?_
    refine oC (oF f38_1 rfl rfl) ?_
    refine oC (oD ty35 rfl rfl rfl) ?_
    refine oC (oE sl35 rfl rfl) ?_
    refine oC (oLt rfl rfl rfl) ?_
    refine oN ?_
    refine aC rfl (fun h => ?_) (fun h => ?_)
    rotate_left
    · simp at h
    refine aW ?_
    refine aS (aB ?_)
    have hx : ([a, b, c, d] : List Nod)[3]? = some d := rfl
    refine dS ?_
    refine dC (oF f38_1_WrldS rfl rfl) ?_
    refine dC (oD ty35_NRef rfl rfl rfl) ?_
    refine dC (oF f38_1 rfl rfl) ?_
    refine dC (oD ty35 rfl rfl rfl) ?_
    refine dC (oM rfl (Conv.of rfl) rfl) ?_
    refine dC (op_ix sl35 rfl rfl rfl (by omega) hx) ?_
    refine dC (oDR ty66 rfl rfl) ?_
    refine dC (oL fb133 (.cons rfl (Conv.of rfl) (.nil _)) (l12Copy_ct d hd.l' hd.v) (aK rfl rfl aK0) rfl rfl) ?_
    refine dC (op_bsm (s := 27) (d := 28) (o := 34) sl35_NodS z66_NodS rfl rfl rfl (by decide) rfl) ?_
    refine dC (op_apMA (o := 13) (o2 := 34) (o' := 1) sl35_NodS z66_NodS ul35 rfl rfl rfl rfl rfl rfl (by simp) (by simp) (by simp) rfl) ?_
    refine dC (oF f38_1_WrldS rfl rfl) ?_
    refine dC (op_st ty35_NRef rfl rfl (Conv.of rfl) rfl) ?_
    refine dr_nil mixed rfl ?_
    refine aR ?_
    refine oC (oM rfl (Conv.of rfl) rfl) ?_
    refine oC (oP rfl rfl rfl (by omega)) ?_
    refine oC (oA rfl (Conv.of rfl) rfl) ?_
    refine oN ?_
    repeat first | refine nS ?_ | refine nB ?_
    exact ⟨0, _, by decide, .inr (.inr (.inr (.inr (⟨rfl, rfl⟩)))), Le.mk rfl (tlb rfl rfl rfl (tlb rfl rfl rfl (tlb rfl rfl rfl (tle rfl (rfl) rfl tln)))) (olk rfl (by exact obOkS rfl) (olk rfl (by exact obOkS0) (olk rfl (by exact bC) (olk rfl (by exact bN) oln)))) noS⟩
  · refine aS (aS (aR ?_))
    refine oC (oM rfl (Conv.of rfl) rfl) ?_
    refine oC (oF f38_1 rfl rfl) ?_
    refine oC (oD ty35 rfl rfl rfl) ?_
    refine oC (oE sl35 rfl rfl) ?_
    refine oC (oLt rfl rfl rfl) ?_
    refine oN ?_
    refine aC rfl (fun h => ?_) (fun h => ?_)
    · simp at h
    refine aE ?_
    repeat refine ex_seq ?_
    refine eB ?_
    refine aS (aR ?_)
    refine oC (op_ldm tW rfl rfl rfl) ?_
    refine oC (op_stm tW rfl rfl rfl) ?_
    refine oN ?_
    refine aT ?_
    repeat first | refine rS ?_ | refine rB ?_
    refine ⟨_, _, res1C (ol := [(1, .arr ([sN a, sN b, sN c, sN d] : List NodS))]) tW rfl rfl (fun o ho => ?_) (olk rfl bN oln) noS, rfl, rfl⟩
    have : o = 1 := by simpa using (show o ∈ [1] from ho)
    subst this; rfl
theorem l21Copy_ct (w : Wrld) (h : FineX w) : Ct Tryz.prog 97 [.v w] noObj (fun r1 h1 => r1 = .v (sW w) ∧ h1 = obs (so w)) := by
  have h4 := h.four
  have hg := h.fine.log
  have hs := h.fine.seen
  obtain ⟨e, ns, l, bd⟩ := w
  match ns, h4 with
  | [a, b, c, d], _ => exact l21Copy4_ct e a b c d l bd hg (hs a (by simp)) (hs b (by simp)) (hs c (by simp)) (hs d (by simp))
end Go.Proofs.YtgfoeiieopnlaaaGreatDoor

/- The reference: what happens in a world, for outsiders; both: a node hears, for outsiders. -/
set_option linter.unusedVariables false
set_option linter.unusedSimpArgs false
namespace Go.Proofs.YtgfoeiieopnlaaaGreatDoor
open Go Go.Wt
theorem soFree {w : Wrld} {st : St} (h : st.ob 1 = .free) : ∀ o, keys (so w) o = true → o ∈ (so w).map (·.1) ∧ st.ob o = .free := fun o ho => by
  have : o = 1 := by simpa [keys, lk0] using ho
  subst this
  exact ⟨by simp, h⟩
def nodeHearR (n : Nod) (v : Vote) : Nod × Vote × Bool := if nodeOk n then hearF n v else (.zero, .zero, false)
end Go.Proofs.YtgfoeiieopnlaaaGreatDoor

/- What happens in a world in form. -/
set_option linter.unusedVariables false
set_option linter.unusedSimpArgs false
namespace Go.Wt
/-- What a node does when it hears `v`, or proposes. -/
structure NS (n : Nod) (v : Option Vote) (x : Nod × Vote × Bool) : Prop where
  id : x.1.id = n.id
  ep : x.1.epoch = n.epoch
  seen : ∃ N, x.1.seen = n.seen ++ N ∧ ∀ u ∈ N, some u = v ∨ (x.2.2 = true ∧ u = x.2.1)
  by_ : x.2.2 = true → x.2.1.by_ = n.id
theorem NS.refl (n : Nod) (v : Option Vote) : NS n v (n, .zero, false) := ⟨rfl, rfl, ⟨[], by simp, fun u hu => by cases hu⟩, fun h => by cases h⟩
theorem NS.keep {n m : Nod} {v : Option Vote} (hid : m.id = n.id) (hep : m.epoch = n.epoch) (hs : ∃ N, m.seen = n.seen ++ N ∧ ∀ u ∈ N, some u = v) : NS n v (m, .zero, false) := by
  obtain ⟨N, h1, h2⟩ := hs
  exact ⟨hid, hep, ⟨N, h1, fun u hu => .inl (h2 u hu)⟩, fun h => by cases h⟩
theorem NS.vote {n m : Nod} {v : Option Vote} {c : List Itm} (hid : m.id = n.id) (hep : m.epoch = n.epoch) (hs : ∃ N, m.seen = n.seen ++ N ∧ ∀ u ∈ N, some u = v) : NS n v (voteF m c) := by
  unfold voteF
  split
  · exact NS.keep hid hep hs
  · obtain ⟨N, h1, h2⟩ := hs
    refine ⟨hid, hep, ⟨N ++ [⟨m.id, c⟩], by simp [h1], fun u hu => ?_⟩, fun _ => hid⟩
    rcases List.mem_append.1 hu with hu | hu
    · exact .inl (h2 u hu)
    · simp at hu; exact .inr ⟨rfl, hu⟩
theorem NS.try {n m : Nod} {v : Option Vote} (hid : m.id = n.id) (hep : m.epoch = n.epoch) (hs : ∃ N, m.seen = n.seen ++ N ∧ ∀ u ∈ N, some u = v) : ∀ l : List Vote, NS n v (tryF m l)
  | [] => NS.keep hid hep hs
  | u :: r => by
    simp only [tryF]
    split
    · exact NS.vote hid hep hs
    · exact NS.try hid hep hs r
theorem seeF_app (n : Nod) (v : Vote) : ∃ N, (seeF n v).seen = n.seen ++ N ∧ ∀ u ∈ N, some u = some v := by
  unfold seeF
  split
  · exact ⟨[], by simp, fun u hu => by cases hu⟩
  · exact ⟨[v], rfl, fun u hu => by simp at hu; rw [hu]⟩
theorem NS.hear (n : Nod) (v : Vote) : NS n (some v) (hearF n v) := by
  have h := seeF_app n v
  have h2 := seeF_epoch n v
  unfold hearF
  split
  · split
    · exact NS.try h2.2.1 h2.1 h _
    · exact NS.keep h2.2.1 h2.1 h
  · exact NS.refl n _
theorem NS.propose (n : Nod) (p : Pay) : NS n none (proposeF n p) := by
  unfold proposeF
  split
  · exact NS.vote rfl rfl ⟨[], by simp, fun u hu => by cases hu⟩
  · exact NS.refl n _
theorem putF_nodes (w : Wrld) (k : Nat) (x : Nod × Vote × Bool) : (putF w k x).nodes = w.nodes.set k x.1 := by
  unfold putF
  split
  · unfold sendF; split <;> rfl
  · rfl
/-- What is sent: at most one more. -/
def Sn (w w' : Wrld) (p : Vote → Prop) : Prop := w'.log = w.log ∨ ∃ v, w'.log = w.log ++ [v] ∧ p v
theorem sendF_sn (w : Wrld) (v : Vote) {p : Vote → Prop} (h : p v) : Sn w (sendF w v) p := by
  unfold sendF
  split
  · exact .inr ⟨v, rfl, h⟩
  · exact .inl rfl
theorem sendF_mem {w : Wrld} {v : Vote} (h : w.log.length < 80) : v ∈ (sendF w v).log := by
  unfold sendF
  split
  · simp
  · rename_i hh
    simp only [Bool.and_eq_true, Bool.not_eq_true', decide_eq_false_iff_not, decide_eq_true_eq, not_and] at hh
    by_cases hm : v ∈ w.log
    · exact hm
    · exact absurd h (hh hm)
theorem putF_sn {w : Wrld} {k : Nat} {x : Nod × Vote × Bool} {p : Vote → Prop} (h : x.2.2 = true → p x.2.1) : Sn w (putF w k x) p := by
  unfold putF
  split
  · rename_i hh
    exact sendF_sn { w with nodes := w.nodes.set k x.1 } x.2.1 (h hh)
  · exact .inl rfl
theorem putF_has {w : Wrld} {k : Nat} {x : Nod × Vote × Bool} (h : x.2.2 = true) (hl : w.log.length < 80) : x.2.1 ∈ (putF w k x).log := by
  unfold putF
  rw [if_pos h]
  exact sendF_mem hl
theorem Sn.sub {w w' : Wrld} {p : Vote → Prop} (h : Sn w w' p) : ∀ v ∈ w.log, v ∈ w'.log := fun v hv => by
  rcases h with e | ⟨u, e, _⟩
  · rw [e]; exact hv
  · rw [e]; exact List.mem_append_left _ hv
/-- What a world becomes. -/
structure Stp (w w' : Wrld) : Prop where
  ok : WOk w'
  bad : w'.bad = w.bad
  ep : w.epoch ≤ w'.epoch ∧ w'.epoch ≤ w.epoch + 1
  log : Sn w w' (fun _ => True)
  seen : ∀ (i : Nat) (n : Nod), w.nodes[i]? = some n → ∃ n' N, w'.nodes[i]? = some n' ∧ n'.seen = n.seen ++ N
theorem Stp.refl {w : Wrld} (h : WOk w) : Stp w w := ⟨h, rfl, by omega, .inl rfl, fun i n hn => ⟨n, [], hn, by simp⟩⟩
theorem Stp.put {w : Wrld} {k : Nat} {n : Nod} {v : Option Vote} {x : Nod × Vote × Bool} (h : WOk w) (hn : w.nodes[k]? = some n) (hx : NS n v x) (hv : ∀ u, v = some u → u ∈ w.log) (hl : w.log.length < 80)
    (h1 : nodeOk x.1 = true) (h2 : x.2.2 = true → voteOk x.2.1 = true) : Stp w (putF w k x) := by
  have hno := putF_nodes w k x
  have hsn : Sn w (putF w k x) (fun _ => True) := putF_sn fun _ => trivial
  have heb := putF_eb w k x
  have hlt := (List.getElem?_eq_some_iff.1 hn).1
  refine ⟨⟨putF_ok h.fx h1 h2, by rw [heb.2]; exact h.bad, fun i m hm => ?_⟩, heb.2, by rw [heb.1]; omega, hsn, fun i m hm => ?_⟩
  · rw [hno] at hm
    rw [heb.1, heb.2]
    by_cases hik : k = i
    · subst hik
      rw [List.getElem?_set_self hlt] at hm
      injection hm with hm
      subst hm
      obtain ⟨a, b, c⟩ := h.node k n hn
      refine ⟨by rw [hx.id]; exact a, by rw [hx.ep]; exact b, fun u hu => ?_⟩
      obtain ⟨N, e, hN⟩ := hx.seen
      rw [e] at hu
      rcases List.mem_append.1 hu with hu | hu
      · rcases c u hu with q | q
        · exact .inl q
        · exact .inr (hsn.sub u q)
      · rcases hN u hu with q | ⟨q1, q2⟩
        · exact .inr (hsn.sub u (hv u q.symm))
        · rw [q2]; exact .inr (putF_has q1 hl)
    · rw [List.getElem?_set_ne hik] at hm
      obtain ⟨a, b, c⟩ := h.node i m hm
      exact ⟨a, b, fun u hu => (c u hu).imp id (hsn.sub u)⟩
  · rw [hno]
    by_cases hik : k = i
    · subst hik
      rw [hn] at hm
      injection hm with hm
      subst hm
      obtain ⟨N, e, _⟩ := hx.seen
      exact ⟨x.1, N, by rw [List.getElem?_set_self hlt], e⟩
    · exact ⟨m, [], by rw [List.getElem?_set_ne hik]; exact hm, by simp⟩
theorem Stp.tick {w : Wrld} (h : WOk w) : Stp w (tickF w) := by
  have hep := h.fx.ep
  refine ⟨⟨tickF_ok h.fx, h.bad, fun i m hm => ?_⟩, rfl, ?_, .inl rfl, fun i n hn => ?_⟩
  · have hm' : (w.nodes.map fun n => enterF n (min (w.epoch + 1) 30))[i]? = some m := hm
    rw [List.getElem?_map] at hm'
    cases hn : w.nodes[i]? with
    | none => rw [hn] at hm'; cases hm'
    | some n =>
      rw [hn] at hm'
      simp at hm'
      obtain ⟨a, b, c⟩ := h.node i n hn
      subst hm'
      refine ⟨?_, ?_, fun u hu => ?_⟩
      · unfold enterF; split <;> exact a
      · show (enterF n (min (w.epoch + 1) 30)).epoch = min (w.epoch + 1) 30
        unfold enterF
        split
        · rfl
        · rename_i hh
          simp only [within, Bool.and_eq_true, decide_eq_true_eq, not_and] at hh
          rw [b] at hh ⊢
          omega
      · have : (enterF n (min (w.epoch + 1) 30)).seen = n.seen := by unfold enterF; split <;> rfl
        rw [this] at hu
        exact c u hu
  · show w.epoch ≤ min (w.epoch + 1) 30 ∧ min (w.epoch + 1) 30 ≤ w.epoch + 1
    omega
  · refine ⟨enterF n (min (w.epoch + 1) 30), [], ?_, ?_⟩
    · show (w.nodes.map fun n => enterF n (min (w.epoch + 1) 30))[i]? = _
      rw [List.getElem?_map, hn]; rfl
    · unfold enterF; split <;> simp
theorem Stp.send {w : Wrld} {v : Vote} (h : WOk w) (hv : voteOk v = true) : Stp w (sendF w v) := by
  have hsn : Sn w (sendF w v) (fun _ => True) := sendF_sn w v trivial
  have e : (sendF w v).epoch = w.epoch ∧ (sendF w v).bad = w.bad ∧ (sendF w v).nodes = w.nodes := by unfold sendF; split <;> exact ⟨rfl, rfl, rfl⟩
  refine ⟨⟨sendF_ok h.fx hv, by rw [e.2.1]; exact h.bad, fun i m hm => ?_⟩, e.2.1, by rw [e.1]; omega, hsn, fun i n hn => ⟨n, [], by rw [e.2.2]; exact hn, by simp⟩⟩
  rw [e.2.2] at hm
  rw [e.1, e.2.1]
  obtain ⟨a, b, c⟩ := h.node i m hm
  exact ⟨a, b, fun u hu => (c u hu).imp id (hsn.sub u)⟩
theorem Stp.bring {w : Wrld} (h : WOk w) (a id : Int) : Stp w (wbringF w a id) := by
  unfold wbringF
  split
  · rename_i hh
    simp only [honestB, Bool.and_eq_true, Bool.not_eq_true', decide_eq_false_iff_not, decide_eq_true_eq] at hh
    split
    · rename_i n v hn hv
      have := hearF_ok v (h.fx.nodes n (List.mem_of_getElem? hn))
      exact Stp.put h hn (NS.hear n v) (fun u hu => by injection hu with hu; rw [← hu]; exact List.mem_of_getElem? hv) hh.1.2 this.1 this.2
    · exact Stp.refl h
  · exact Stp.refl h
theorem Stp.propose {w : Wrld} (h : WOk w) (id : Int) (p : Pay) : Stp w (wproposeF w id p) := by
  unfold wproposeF
  split
  · rename_i hh
    simp only [honestB, Bool.and_eq_true, Bool.not_eq_true', decide_eq_false_iff_not, decide_eq_true_eq] at hh
    split
    · rename_i n hn
      have := proposeF_ok p (h.fx.nodes n (List.mem_of_getElem? hn))
      exact Stp.put h hn (NS.propose n p) (fun u hu => by cases hu) hh.1.2 this.1 this.2
    · exact Stp.refl h
  · exact Stp.refl h
theorem Stp.do {w : Wrld} (h : WOk w) (e : Evt) : Stp w (doF w e) := by
  unfold doF
  split
  · exact Stp.tick h
  · split
    · exact Stp.propose h _ _
    · split
      · exact Stp.bring h _ _
      · split
        · split
          · rename_i hh
            simp only [Bool.and_eq_true] at hh
            exact Stp.send h hh.1
          · exact Stp.refl h
        · exact Stp.refl h
end Go.Wt

/- Parking of a world's room. -/
set_option linter.unusedVariables false
set_option linter.unusedSimpArgs false
namespace Go.Wt
open Go
variable {P : Program} {S : Nat → Prop} {ops : Array Oper} {st : St}
theorem parkCW_rd {G : Gh} {w : Go.World} {ω D : Owner} {e bd : Int} {nr : NRef} {l : List Vote} {cs : List Value} (h : Enc.rd G w ω (WrldS.mk e nr ⟨l, true⟩ bd) cs) :
    ∃ hv, Enc.rd (G.mv (Owner.sub ω [1, 1, 0]) D) w ω (WrldH.mk e nr ⟨l, hv⟩ bd) cs ∧ ∀ a k cap, hv = .slice a k cap → Tail (G.mv (Owner.sub ω [1, 1, 0]) D) w D a (k * Enc.size Vote) (cap * Enc.size Vote) := by
  obtain ⟨c1, c2, rfl, r1, ⟨c3, c4, rfl, r3, ⟨c5, c6, rfl, ⟨a, cap, h1, h2, h3, h4⟩, r6⟩⟩⟩ := h
  refine ⟨.slice a l.length cap, ⟨c1, _, rfl, r1, c3, _, rfl, Disl.mono Sh.mv (fun _ _ _ h => h) r3, c5, _, rfl, ⟨h1, a, cap, rfl, h2, h3.mono Sh.mv⟩, r6⟩, fun a' k cap' e => ?_⟩
  injection e with e1 e2 e3
  subst e1 e2 e3
  have := (h4 rfl).mono (Ow.mv_src (G := G) (w := w) (s := Owner.sub (Owner.sub (Owner.sub ω [1]) [1]) [0]) (d := D))
  simpa [Owner.sub] using this
theorem awp_parkCW {c : Code} {Q : Exit → St → Prop} {s o tb : Nat} {b : Bool} {e bd : Int} {nr : NRef} {l : List Vote} (hs : st.tm s = some (.v b)) (ho : st.ob o = .cell (WrldS.mk e nr ⟨l, true⟩ bd)) (htb : st.tm tb = some (.box o (IsLens.whole WrldS)))
    (k : ∀ hv, awp P S c Q (st.upd [(tb, some (.box o (IsLens.whole WrldH))), (s, some (.v (Room.mk (α := Vote) hv true)))] [(o, .cell (WrldH.mk e nr ⟨l, hv⟩ bd))])) : awp P S c Q st := fun G w a hr => by
  have hob := hr.objs o
  rw [ho] at hob
  obtain ⟨b', cs, e', k1, k2, k3, k4⟩ := hob
  obtain ⟨hv, p1, p2⟩ := parkCW_rd (D := (.tmp s, [])) k3
  have hts := hr.tmps s
  rw [hs] at hts
  have e2 : a.tmps.getD s undef = .bool b := RelV.bool hts
  have hk : Keep S G w (G.mv (.obj o, [1, 1, 0]) (.tmp s, [])) w := Keep.mv S (by simp) (by simp)
  refine wp_mono (k hv (G.mv (.obj o, [1, 1, 0]) (.tmp s, [])) w a ⟨hr.defers, hr.size, fun q => ?_, fun j => ?_⟩) fun e a'' w'' ⟨st'', G'', q1, q2, q3⟩ => ⟨st'', G'', q1, hk.trans q2, q3⟩
  · show RelT _ _ _ (orr (lk [(tb, _), (s, _)] q) (st.tm q)) (a.tmps.getD q undef)
    simp only [lk]
    by_cases eb : q = tb
    · subst eb
      rw [if_pos rfl]
      have := hr.tmps q
      rw [htb] at this
      exact this
    rw [if_neg eb]
    by_cases eq : q = s
    · subst eq
      rw [if_pos rfl, e2]
      exact ⟨[.bool b], ⟨⟨_, rfl, rfl⟩, fun _ a k cap e => p2 a k cap e⟩, rfl⟩
    · rw [if_neg eq]
      exact (hr.tmps q).mono Sh.mv (Ow.mv_other (by simp) (by simpa using eq)) (fun _ _ _ h => h)
  · show RelO _ _ j (orr (lk [(o, _)] j) (st.ob j))
    simp only [lk]
    by_cases ek : j = o
    · subst ek
      rw [if_pos rfl]
      exact ⟨b', cs, e', k1, k2, p1, fun i hi => by simp [Gh.mv, k4 i hi, relab]⟩
    · rw [if_neg ek]
      obtain ⟨T', hT⟩ := Obj.refs_all (st.ob j)
      exact (hr.objs j).pres Sh.mv (fun _ _ _ h => h) hT (PresO.mv (by simpa using Ne.symm ek) (by simp) (by simp) (by simp))
/-- A call that takes a world whose room is parked. -/
theorem op_callPW {d s r : Nat} {T pos aft} {f : FuncId} {post : List Operand} {av2 : List AV} {e bd : Int} {nr : NRef} {l : List Vote} {hv : Value} {ts : Array TypeId} {rt2 : List Nat} {ol ol' : List (Nat × Obj)} {res : AV}
    (hne : Nat.beq s r = false) (hB : fnB P f = true) (hs : st.tm s = some (.v (WrldH.mk e nr ⟨l, hv⟩ bd))) (hq : st.tm r = some (.v (Room.mk (α := Vote) hv true)))
    (ha2 : Args (st.upd [(s, some (.v (WrldS.mk e nr ⟨l, true⟩ bd))), (r, none), (r, none)] []) 0 post av2 rt2) (hct : CtO P f (.v (WrldS.mk e nr ⟨l, true⟩ bd) :: av2) ol res ol')
    (hol : OLs (st.upd [(s, some (.v (WrldS.mk e nr ⟨l, true⟩ bd))), (r, none), (r, none)] []) ol) (hok : OKs (keys ol) ol) (hok' : OKs (keys ol) ol') (hke : keysEq ol ol' = true)
    (hd2 : ∀ z ∈ av2, z.dis = z ∧ ∀ o ∈ z.refs, keys ol o = true) (her : ∀ o ∈ (AV.v (WrldS.mk e nr ⟨l, true⟩ bd)).refs, keys ol o = true) (hrr : ∀ o ∈ res.refs, keys ol o = true) (hn : Nat.blt d st.n = true) :
    OpOk P S ops ⟨some d, .call { callee := .value (.func f), args := (.tmp s :: post).toArray, argTypes := ts }, T, pos, aft, none⟩ ([s, r] ++ (s :: ([] ++ rt2))) (ol.map (·.1)) ([(d, some res), (s, some (AV.dis (.v (WrldS.mk e nr ⟨l, true⟩ bd))))] ++ [(s, some (.v (WrldS.mk e nr ⟨l, true⟩ bd))), (r, none), (r, none)]) ol' st := by
  refine OpOk.pre (oLM (pre := []) hB (.nil _) (by simp [St.upd, lk, orr]) ha2 hct hol hok hok' hke argO0 hd2 her hrr hn) ?_
  intro st1 hag G w a hr
  exact ⟨_, unparkW (s := r) (fun e => by rw [e] at hne; simp at hne) hr (by rw [hag.tm s (by simp)]; exact hs) (by rw [hag.tm r (by simp)]; exact hq), Keep.mv S (by simp) (by simp)⟩
/-- Between the parts of a region: a variable is seen in another way. -/
theorem recell {o tb : Nat} {α β : Type} [Enc α] [Enc β] {x : α} {y : β} (ho : st.ob o = .cell x) (htb : st.tm tb = some (.box o (IsLens.whole α)))
    (hc : ∀ (G : Gh) (w : Go.World) (ω : Owner) (cs : List Value), Enc.rd G w ω x cs → Enc.rd G w ω y cs) :
    ∀ G w a, RelSt G w a st → ∃ (_ : Unit) (G' : Gh), RelSt G' w a (st.upd [(tb, some (.box o (IsLens.whole β)))] [(o, .cell y)]) ∧ Keep S G w G' w := fun G w a hr => by
  have hob := hr.objs o
  rw [ho] at hob
  obtain ⟨b', cs, e, k1, k2, k3, k4⟩ := hob
  refine ⟨(), G, ⟨hr.defers, hr.size, fun q => ?_, fun j => ?_⟩, Keep.refl _ _ _⟩
  · show RelT _ _ _ (orr (lk [(tb, _)] q) (st.tm q)) (a.tmps.getD q undef)
    simp only [lk]
    by_cases eb : q = tb
    · subst eb
      rw [if_pos rfl]
      have := hr.tmps q
      rw [htb] at this
      exact this
    · rw [if_neg eb]
      exact hr.tmps q
  · show RelO _ _ j (orr (lk [(o, _)] j) (st.ob j))
    simp only [lk]
    by_cases ek : j = o
    · subst ek
      rw [if_pos rfl]
      exact ⟨b', cs, e, k1, k2, hc _ _ _ _ k3, k4⟩
    · rw [if_neg ek]
      exact hr.objs j
theorem wrlH_fW {G : Gh} {w : Go.World} {ω : Owner} {e bd : Int} {nr : NRef} {l : List Vote} {hv : Value} {cs : List Value} (h : Enc.rd G w ω (WrldH.mk e nr ⟨l, hv⟩ bd) cs) : Enc.rd G w ω (WrldS.mk e nr ⟨l, false⟩ bd) cs := by
  obtain ⟨c1, c2, rfl, r1, ⟨c3, c4, rfl, r3, ⟨c5, c6, rfl, ⟨e0, a, cap, h1, h2, h3⟩, r6⟩⟩⟩ := h
  exact ⟨c1, _, rfl, r1, c3, _, rfl, r3, c5, _, rfl, ⟨a, cap, by rw [e0, h1], h2, h3, fun h => by cases h⟩, r6⟩
/-! ### Quiet epochs in worlds in form -/
theorem brN_ok {w : Wrld} (h : FineX w) (a : Int) : ∀ k, FineX (brN w a k)
  | 0 => h
  | k + 1 => wbringF_ok (brN_ok h a k)
theorem b4_ok {w : Wrld} (h : FineX w) (a : Int) : FineX (b4 w a) := brN_ok h a 4
theorem sprF_ok : ∀ (n a : Nat) {w : Wrld}, FineX w → FineX (sprF n a w)
  | 0, _, _, h => h
  | n + 1, a, w, h => by
    simp only [sprF]
    split
    · exact sprF_ok n (a + 1) (b4_ok h a)
    · exact h
theorem spread_ok {w : Wrld} (h : FineX w) : FineX (spreadF w) := sprF_ok 100 0 h
theorem bring_ep (w : Wrld) (a id : Int) : (wbringF w a id).epoch = w.epoch := by
  unfold wbringF
  split
  · split
    · exact (putF_eb _ _ _).1
    · rfl
  · rfl
theorem sprF_ep' : ∀ (n a : Nat) (w : Wrld), (sprF n a w).epoch = w.epoch
  | 0, _, _ => rfl
  | n + 1, a, w => by
    simp only [sprF]
    split
    · rw [sprF_ep' n (a + 1) (b4 w a)]
      unfold b4
      rw [bring_ep, bring_ep, bring_ep, bring_ep]
    · rfl
theorem calm_ok {w : Wrld} (h : FineX w) (p : Pay) : FineX (calmF w p) := spread_ok (wproposeF_ok (spread_ok (tickF_ok h)))
theorem calmFold_ok : ∀ (l : List Pay) {w : Wrld}, FineX w → FineX (l.foldl calmF w)
  | [], _, h => h
  | p :: l, _, h => calmFold_ok l (calm_ok h p)
theorem sprF_wok : ∀ (n a : Nat) {w : Wrld}, WOk w → WOk (sprF n a w)
  | 0, _, _, h => h
  | n + 1, a, w, h => by
    simp only [sprF]
    split
    · exact sprF_wok n (a + 1) (Stp.bring (Stp.bring (Stp.bring (Stp.bring h a 1).ok a 2).ok a 3).ok a 4).ok
    · exact h
theorem calm_wok {w : Wrld} (h : WOk w) (p : Pay) : WOk (calmF w p) := sprF_wok 100 0 (Stp.propose (sprF_wok 100 0 (Stp.tick h).ok) _ p).ok
theorem calmFold_wok : ∀ (l : List Pay) {w : Wrld}, WOk w → WOk (l.foldl calmF w)
  | [], _, h => h
  | p :: l, _, h => calmFold_wok l (calm_wok h p)
end Go.Wt

/- Drawn nodes. -/
set_option linter.unusedVariables false
set_option linter.unusedSimpArgs false
namespace Go.Wt
open Go
theorem rd_FN {G : Gh} {w : Go.World} {ω : Owner} {n : Nod} {cs : List Value} (h : Enc.rd G w ω (fN n) cs) : Enc.rd G w ω n cs := by
  obtain ⟨c1, c2, rfl, r1, ⟨c3, c4, rfl, r3, ⟨c5, c6, rfl, r5, ⟨a, cap, h1, h2, h3, h4⟩⟩⟩⟩ := h
  exact ⟨c1, _, rfl, r1, c3, _, rfl, r3, c5, _, rfl, r5, ⟨a, cap, h1, h2, h3⟩⟩
/-- A node of a drawn one's size. -/
structure Ln (n : Nod) : Prop where
  ep : 0 ≤ n.epoch ∧ n.epoch ≤ 30
  sl : n.seen.length ≤ 101
  sc : ∀ v ∈ n.seen, v.chain.length ≤ 30
/-- Which node is drawn. -/
def idF (bad q : Int) : Int := if q = bad then q.tmod 4 + 1 else q
end Go.Wt

/- The reference: drawn nodes. -/
set_option linter.unusedVariables false
set_option linter.unusedSimpArgs false
namespace Go.Proofs.YtgfoeiieopnlaaaGreatDoor
open Go Go.Wt
end Go.Proofs.YtgfoeiieopnlaaaGreatDoor

/- The reference: drawn nodes and votes. -/
set_option linter.unusedVariables false
set_option linter.unusedSimpArgs false
namespace Go.Proofs.YtgfoeiieopnlaaaGreatDoor
open Go Go.Wt
end Go.Proofs.YtgfoeiieopnlaaaGreatDoor

/- Quiet epochs. -/
set_option linter.unusedVariables false
set_option linter.unusedSimpArgs false
namespace Go.Proofs.YtgfoeiieopnlaaaGreatDoor
open Go Go.Wt
set_option maxHeartbeats 1000000 in
theorem spread_ct (w : Wrld) (hw : Fine w) : CtO Tryz.prog 46 [.box 0 (IsLens.whole WrldA)] (wo w) (.tup []) (wo (spreadF w)) := by
  refine Ct.intro Tryz.func46 rfl rfl ?_
  refine aS (aR ?_)
  refine oC (oA rfl (Conv.of rfl) rfl) ?_
  refine oN ?_
  refine aB ?_
  refine awp_loop' (fun n_ s => ∃ (a : Nat), ∃ (x : Wrld), ∃ (hx : Fine x), ∃ (he : sprF (100 - a) a x = spreadF w), ∃ (hn : n_ + a = 100), s = mkSt 21 [(0, .box 0 (IsLens.whole WrldA)), (2, .v (a : Int))] [(0, .cell (wA x)), (1, .arr x.nodes)]) (100) ⟨0, w, hw, rfl, by omega, rfl⟩ (Le.mk rfl (tlb rfl rfl rfl (tle rfl (rfl) rfl tln)) (olk rfl (by exact obOkW rfl) (olk rfl (by exact bA) oln)) (hU (a := wo w) rfl)) ?_
  rintro n_ s ⟨a, x, hx, he, hn, rfl⟩
  refine aS (aS (aR ?_))
  refine oC (oM rfl (Conv.of rfl) rfl) ?_
  refine oC (oM rfl (Conv.of rfl) rfl) ?_
  refine oC (oNB rfl rfl) ?_
  refine oC (oF f38_2_WrldA rfl rfl) ?_
  refine oC (oD ty36 rfl rfl rfl) ?_
  refine oC (oE sl36 rfl rfl) ?_
  refine oC (oLt rfl rfl rfl) ?_
  refine oN ?_
  refine aC rfl (fun h => ?_) (fun h => ?_)
  · have ha : a < x.log.length := by simpa using h
    have hll := hx.ll
    refine aW ?_
    refine aS (aB ?_)
    refine aS (aR ?_)
    refine oC (oA rfl (Conv.of rfl) rfl) ?_
    refine oN ?_
    refine awp_toB (s' := mkSt 21 [(0, .box 0 (IsLens.whole WrldA)), (2, .v (a : Int))] [(0, .cell (wA (b4 x a))), (1, .arr (b4 x a).nodes)]) ?_ ?_
    · refine aB ?_
      refine awp_loop' (fun n_ s => ∃ (k : Nat), ∃ (hk : n_ + k = 4), s = mkSt 21 [(0, .box 0 (IsLens.whole WrldA)), (2, .v (a : Int)), (3, .v ((k : Int) + 1))] [(0, .cell (wA (brN x a k))), (1, .arr (brN x a k).nodes)]) (4) ⟨0, by omega, rfl⟩ (Le.mk rfl (tlb rfl rfl rfl (tle rfl (rfl) rfl (tle rfl (rfl) rfl tln))) (olk rfl (by exact obOkW rfl) (olk rfl (by exact bA) oln)) (hU (a := wo w) rfl)) ?_
      rintro n_ s ⟨k, hk, rfl⟩
      refine aS (aS (aR ?_))
      refine oC (oM rfl (Conv.of rfl) rfl) ?_
      refine oC (op_leq rfl rfl rfl) ?_
      refine oN ?_
      refine aC rfl (fun h2 => ?_) (fun h2 => ?_)
      · have hk2 : k < 4 := by simp at h2; omega
        refine aW ?_
        refine aS (aB ?_)
        refine aR ?_
        refine oC (oM rfl (Conv.of rfl) rfl) ?_
        refine oC (oM rfl (Conv.of rfl) rfl) ?_
        refine oC (oM rfl (Conv.of rfl) rfl) ?_
        refine oC (oLO fb43 (.cons rfl (Conv.of rfl) (.cons rfl (Conv.of rfl) (.cons rfl (Conv.of rfl) (.nil _)))) (wbring_ct _ _ _ (brN_fine hx a k)) (olsk rfl (olsk rfl ols0)) (kK (by exact obOkW rfl) (kK (by exact bA) k0)) (kK (by exact obOkW rfl) (kK (by exact bA) k0)) rfl (argOb rfl rfl rfl (argOk' rfl rfl (argOk' rfl rfl argO0))) (fun o ho => by cases ho) rfl) ?_
        refine oN ?_
        refine aR ?_
        refine oC (oM rfl (Conv.of rfl) rfl) ?_
        refine oC (oP rfl rfl rfl (by omega)) ?_
        refine oC (oA rfl (Conv.of rfl) rfl) ?_
        refine oN ?_
        repeat first | refine nS ?_ | refine nB ?_
        exact ⟨n_ - 1, _, by omega, ⟨k + 1, by omega, rfl⟩, Le.mk rfl (tlb rfl rfl rfl (tle rfl (rfl) rfl (tle rfl (rfl) rfl tln))) (olk rfl (by exact obOkW rfl) (olk rfl (by exact bA) oln)) (hU (a := wo w) rfl)⟩
      · refine aE ?_
        repeat refine ex_seq ?_
        refine eB ?_
        have hk4 : k = 4 := by simp at h2; omega
        subst hk4
        all_goals exact Le.mk rfl (tlb rfl rfl rfl (tle rfl (rfl) rfl tln)) (olk rfl (by exact obOkW rfl) (olk rfl (by exact bA) oln)) (hU (a := wo w) rfl)
    · refine aR ?_
      refine oC (oM rfl (Conv.of rfl) rfl) ?_
      refine oC (oP rfl rfl rfl (by omega)) ?_
      refine oC (oA rfl (Conv.of rfl) rfl) ?_
      refine oN ?_
      repeat first | refine nS ?_ | refine nB ?_
      exact ⟨n_ - 1, _, by omega, ⟨a + 1, b4 x a, b4_fine hx a, (by rw [← he, show 100 - a = (100 - (a + 1)) + 1 by omega, sprF_go ha]), by omega, rfl⟩, Le.mk rfl (tlb rfl rfl rfl (tle rfl (rfl) rfl tln)) (olk rfl (by exact obOkW rfl) (olk rfl (by exact bA) oln)) (hU (a := wo w) rfl)⟩
  · refine aE ?_
    repeat refine ex_seq ?_
    refine eB ?_
    have ha : ¬ a < x.log.length := by simpa using h
    rw [sprF_stop ha] at he
    subst he
    refine finO (wo (spreadF w)) .nil rfl (fun o ho => by cases ho) ?_ (hK rfl) rfl
    exact (olk rfl (obOkW rfl) (olk rfl bA oln))
set_option maxHeartbeats 1000000 in
theorem calm_ct (w : Wrld) (p : Pay) (hw : Fine w) : CtO Tryz.prog 48 [.box 0 (IsLens.whole WrldA), .v p] (wo w) (.tup []) (wo (calmF w p)) := by
  have h1 := tick_fine hw
  have h2 := spread_fine h1
  have h3 := propose_fine h2 (leader (spreadF (tickF w)).epoch) p
  refine Ct.intro Tryz.func48 rfl rfl ?_
  refine aS (aR ?_)
  refine oC (op_box (o := 2) ty61 rfl (Conv.of rfl) rfl rfl) ?_
  refine oN ?_
  refine aS (aR ?_)
  refine oC (oM rfl (Conv.of rfl) rfl) ?_
  refine oC (oLO fb39 (.cons rfl (Conv.of rfl) (.nil _)) (tick_ct w hw) (olsk rfl (olsk rfl ols0)) (kK (by exact obOkW rfl) (kK (by exact bA) k0)) (kK (by exact obOkW rfl) (kK (by exact bA) k0)) rfl (argOb rfl rfl rfl argO0) (fun o ho => by cases ho) rfl) ?_
  refine oN ?_
  refine aS (aR ?_)
  refine oC (oM rfl (Conv.of rfl) rfl) ?_
  refine oC (oLO fb46 (.cons rfl (Conv.of rfl) (.nil _)) (spread_ct _ h1) (olsk rfl (olsk rfl ols0)) (kK (by exact obOkW rfl) (kK (by exact bA) k0)) (kK (by exact obOkW rfl) (kK (by exact bA) k0)) rfl (argOb rfl rfl rfl argO0) (fun o ho => by cases ho) rfl) ?_
  refine oN ?_
  refine aS (dS ?_)
  refine dC (oM rfl (Conv.of rfl) rfl) ?_
  refine dC (oM rfl (Conv.of rfl) rfl) ?_
  refine dC (oNB rfl rfl) ?_
  refine dC (oF f38_0_WrldA rfl rfl) ?_
  refine dC (oD ty3 rfl rfl rfl) ?_
  refine dC (oL fb78 (.cons rfl (Conv.of rfl) (.nil _)) (leader_ct _) (aK rfl rfl aK0) rfl rfl) ?_
  refine dC (oD ty61 rfl rfl rfl) ?_
  refine dC (oLO fb40 (.cons rfl (Conv.of rfl) (.cons rfl (Conv.of rfl) (.cons rfl (Conv.of rfl) (.nil _)))) (wpropose_ct _ _ _ h2) (olsk rfl (olsk rfl ols0)) (kK (by exact obOkW rfl) (kK (by exact bA) k0)) (kK (by exact obOkW rfl) (kK (by exact bA) k0)) rfl (argOb rfl rfl rfl (argOk' rfl rfl (argOk' rfl rfl argO0))) (fun o ho => by cases ho) rfl) ?_
  refine dr_nil mixed rfl ?_
  refine aR ?_
  refine oC (oM rfl (Conv.of rfl) rfl) ?_
  refine oC (oLO fb46 (.cons rfl (Conv.of rfl) (.nil _)) (spread_ct _ h3) (olsk rfl (olsk rfl ols0)) (kK (by exact obOkW rfl) (kK (by exact bA) k0)) (kK (by exact obOkW rfl) (kK (by exact bA) k0)) rfl (argOb rfl rfl rfl argO0) (fun o ho => by cases ho) rfl) ?_
  refine oN ?_
  refine finO (wo (calmF w p)) .nil rfl (fun o ho => by cases ho) ?_ (hK rfl) rfl
  exact (olk rfl (obOkW rfl) (olk rfl bA oln))
end Go.Proofs.YtgfoeiieopnlaaaGreatDoor

/- A part of a row that is written in place; a copy of one number into it. -/
set_option linter.unusedVariables false
set_option linter.unusedSimpArgs false
namespace Go.Wt
open Go
/-- A part of the row that is object `o`, from the element at `off` on, `n` long. -/
structure SRef where
  o : Nat
  off : Nat
  n : Nat
instance : Enc SRef where
  size := 1
  agg := false
  size_pos := by decide
  agg_size := fun _ => rfl
  rd := fun G _ _ r cs => ∃ b m c c', cs = [.slice (some ⟨b, r.off, none⟩) r.n c] ∧ G.hdr r.o = some (.slice (some ⟨b, 0, none⟩) m c') ∧ r.n ≤ c
  refs := fun r => [r.o]
  dis := fun r => r
  len := fun ⟨_, _, _, _, h, _⟩ => by rw [h]; rfl
  one := fun ⟨_, _, _, _, h, _⟩ c hc => by rw [h] at hc; simp at hc; rw [hc]; rfl
  mono := fun _ _ hm ⟨b, m, c, c', h1, h2, h3⟩ => ⟨b, m, c, c', h1, hm _ (by simp) _ h2, h3⟩
  mono_dis := fun _ hm ⟨b, m, c, c', h1, h2, h3⟩ => ⟨b, m, c, c', h1, hm _ (by simp) _ h2, h3⟩
instance : Disl SRef := ⟨fun _ => rfl⟩
theorem RelV.sref {G w ω u} {r : SRef} (h : RelV G w ω (.v r) u) : ∃ b m c c', u = .slice (some ⟨b, r.off, none⟩) r.n c ∧ G.hdr r.o = some (.slice (some ⟨b, 0, none⟩) m c') ∧ r.n ≤ c := by
  obtain ⟨cs, ⟨b, m, c, c', h1, h2, h4⟩, h3⟩ := h
  exact ⟨b, m, c, c', by rw [h3, h1]; rfl, h2, h4⟩
variable {P : Program} {S : Nat → Prop} {ops : Array Oper} {st : St}
variable {d : Nat} {T pos aft} {x y z : Operand}
theorem op_slA {E bytes t : TypeId} {o : Nat} {xs : List Int} {l : Int} (sl : SlOk P t E bytes Int) (hx : st.ev x = some (.v (NRef.ref o))) (hy : st.ev y = some (.v l)) (ho : st.ob o = .arr xs) (hn : Nat.blt d st.n = true) (hb : 0 ≤ l ∧ l.toNat < xs.length) :
    OpOk P S ops ⟨some d, .slice t x (some y) none none, T, pos, aft, none⟩ (opT x ++ opT y) [o] [(d, some (.v (SRef.mk o l.toNat (xs.length - l.toNat))))] [] st :=
  OpOk.value rfl rfl (by simpa using hn) fun st1 hag G w a hr => by
    obtain ⟨ad, n, c, h1, h2⟩ := RelV.ref (hr.at hag hx fun t ht => by simp [ht])
    have e2 := RelV.int (hr.at hag hy fun t ht => by simp [ht])
    have hob := hr.objs o
    rw [hag.ob o (by simp), ho] at hob
    obtain ⟨b, cap, cs, e, k1, k2', k3', _⟩ := hob
    have k0 := k1
    rw [h2] at k1
    injection k1 with k1
    injection k1 with k1 k2 k3
    subst k1 k2 k3
    obtain ⟨q1, q2⟩ := sl.elem
    refine ⟨sliced (some ⟨b, 0, none⟩) l.toNat xs.length c (Enc.size Int), ?_, [_], ⟨b, xs.length, c - l.toNat, c, ?_, k0, by show xs.length - l.toNat ≤ c - l.toNat; omega⟩, by simp [Enc.val, Enc.agg]; rfl⟩
    · simp only [execOp, h1, e2, Option.map_none, Option.map_some, Sem.run_bind, run_sliceAt_slice _ _ _ _ _ _ q1, run_slice_l w t _ xs.length c q1 .i64 l hb.1 (by omega), q2, sl.el.size, Result.andThen_ok, Sem.run_pure]
    · simp only [sliced]
      rw [if_neg (by omega)]
      simp [Addr.add, Enc.size]
      try (intro; omega)
theorem op_slAh {E bytes t : TypeId} {o : Nat} {xs : List Int} {h : Int} (sl : SlOk P t E bytes Int) (hx : st.ev x = some (.v (NRef.ref o))) (hy : st.ev z = some (.v h)) (ho : st.ob o = .arr xs) (hn : Nat.blt d st.n = true) (hb : 0 ≤ h ∧ h.toNat ≤ xs.length) :
    OpOk P S ops ⟨some d, .slice t x none (some z) none, T, pos, aft, none⟩ (opT x ++ opT z) [o] [(d, some (.v (SRef.mk o 0 h.toNat)))] [] st :=
  OpOk.value rfl rfl (by simpa using hn) fun st1 hag G w a hr => by
    obtain ⟨ad, n, c, h1, h2⟩ := RelV.ref (hr.at hag hx fun t ht => by simp [ht])
    have e2 := RelV.int (hr.at hag hy fun t ht => by simp [ht])
    have hob := hr.objs o
    rw [hag.ob o (by simp), ho] at hob
    obtain ⟨b, cap, cs, e, k1, k2', k3', _⟩ := hob
    have k0 := k1
    rw [h2] at k1
    injection k1 with k1
    injection k1 with k1 k2 k3
    subst k1 k2 k3
    obtain ⟨q1, q2⟩ := sl.elem
    refine ⟨sliced (some ⟨b, 0, none⟩) 0 h.toNat c (Enc.size Int), ?_, [_], ⟨b, xs.length, c, c, ?_, k0, by show h.toNat ≤ c; omega⟩, by simp [Enc.val, Enc.agg]; rfl⟩
    · simp only [execOp, h1, e2, Option.map_none, Option.map_some, Sem.run_bind, run_sliceAt_slice _ _ _ _ _ _ q1, run_slice_h w t _ xs.length c q1 .i64 h hb.1 (by omega), q2, sl.el.size, Result.andThen_ok, Sem.run_pure]
    · simp only [sliced]
      split <;> simp [Addr.add]
/-- The first number of what is copied from. -/
def Fst (st : St) (y : Operand) (rt ro : List Nat) (n : Nat) (v : Int) : Prop := ∀ st1, Agree rt ro st st1 → ∀ G w a, RelSt G w a st1 → ∃ ad c, a.eval y = .slice (some ad) n c ∧ w.cell? ad = some (.int .i64 v)
/-- Where is copied to. -/
def Dst (st : St) (x : Operand) (rt ro : List Nat) (o k n : Nat) : Prop := ∀ st1, Agree rt ro st st1 → ∀ G w a, RelSt G w a st1 → ∃ b c m c', a.eval x = .slice (some ⟨b, k, none⟩) n c ∧ G.hdr o = some (.slice (some ⟨b, 0, none⟩) m c')
theorem fst_list {rt ro : List Nat} {v : Int} {l : List Int} {av : AV} [hs : Src Int av (v :: l)] (hx : st.ev y = some av) (hsub : ∀ t ∈ opT y, t ∈ rt) : Fst st y rt ro (l.length + 1) v := fun st1 hag G w a hr => by
  obtain ⟨ad, cap, h1, h2, h3⟩ := hs.rel (hr.at hag hx hsub)
  rcases h3 with h3 | ⟨b, off, e, _, h4⟩
  · cases h3
  · obtain ⟨c, hc, hm⟩ := h4 0 v rfl
    have hc' : c = [.int .i64 v] := hc
    subst hc'
    have := (hm 0 _ rfl).2
    refine ⟨⟨b, off, none⟩, cap, by rw [h1, e]; rfl, ?_⟩
    simpa [cl] using this
theorem fst_sref {rt ro : List Nat} {v : Int} {o n : Nat} {xs : List Int} (hx : st.ev y = some (.v (SRef.mk o 0 n))) (hsub : ∀ t ∈ opT y, t ∈ rt) (ho : st.ob o = .arr xs) (hoin : o ∈ ro) (hv : xs[0]? = some v) : Fst st y rt ro n v := fun st1 hag G w a hr => by
  obtain ⟨b, m, c, c', h1, h2, _⟩ := RelV.sref (hr.at hag hx hsub)
  have hob := hr.objs o
  rw [hag.ob o hoin, ho] at hob
  obtain ⟨b', cap, cs, e, k1, k2, k3, k4, k5, k6⟩ := hob
  have k0 := k1
  rw [h2] at k1
  injection k1 with k1
  injection k1 with k1 _ _
  injection k1 with k1
  injection k1 with k1 _ _
  subst k1
  obtain ⟨ce, r1, r2⟩ := k5 0 v hv
  have hce : ce = [.int .i64 v] := r1
  subst hce
  have := r2 0 _ rfl
  refine ⟨⟨b, 0, none⟩, c, h1, ?_⟩
  simp only [Nat.zero_mul, Nat.add_zero] at this
  rw [← cl_row k2 0] at this
  exact this
theorem dst_ref {rt ro : List Nat} {o : Nat} {α : Type} [Enc α] {xs : List α} (hx : st.ev x = some (.v (NRef.ref o))) (hsub : ∀ t ∈ opT x, t ∈ rt) (ho : st.ob o = .arr xs) (hoin : o ∈ ro) : Dst st x rt ro o 0 xs.length := fun st1 hag G w a hr => by
  obtain ⟨ad, n, c, h1, h2⟩ := RelV.ref (hr.at hag hx hsub)
  have hob := hr.objs o
  rw [hag.ob o hoin, ho] at hob
  obtain ⟨b', cap, cs, e, k1, k2, k3, k4, k5, k6⟩ := hob
  have k0 := k1
  rw [h2] at k1
  injection k1 with k1
  injection k1 with e1 e2 e3
  subst e1 e2 e3
  exact ⟨b', c, _, _, h1, k0⟩
theorem dst_sref {rt ro : List Nat} {o k n : Nat} (hx : st.ev x = some (.v (SRef.mk o k n))) (hsub : ∀ t ∈ opT x, t ∈ rt) : Dst st x rt ro o k n := fun st1 hag G w a hr => by
  obtain ⟨b, m, c, c', h1, h2, _⟩ := RelV.sref (hr.at hag hx hsub)
  exact ⟨b, c, m, c', h1, h2⟩
theorem op_copy1 {t t2 E bytes : TypeId} {o k n m : Nat} {v : Int} {xs : List Int} (sl : SlOk P t E bytes Int) (hD : Dst st x (opT x ++ opT y) [o] o k n) (hF : Fst st y (opT x ++ opT y) [o] m v) (ho : st.ob o = .arr xs) (hk : k < xs.length) (h1 : Nat.min m n = 1) (hn : Nat.blt d st.n = true) :
    OpOk P S ops ⟨some d, .call { callee := .builtin .copy, args := #[x, y], argTypes := #[t, t2] }, T, pos, aft, none⟩ (opT x ++ opT y) [o] [(d, some (.v (1 : Int)))] [(o, .arr (xs.set k v))] st := by
  intro st1 hag G w a hr K Q hK
  unfold stepO
  rw [if_pos (by simp [Region.wanted])]
  refine .inl ?_
  have hd' : d < st1.n := by rw [hag.n]; simpa using hn
  obtain ⟨b, c, m', c', u1, u2⟩ := hD st1 hag G w a hr
  obtain ⟨ad, cy, v1, v2⟩ := hF st1 hag G w a hr
  have hob := hr.objs o
  rw [hag.ob o (by simp), ho] at hob
  obtain ⟨b', cap, cs, te, m1, m2, m3, m4, m5, m6⟩ := hob
  have m0 := m1
  rw [u2] at m0
  injection m0 with m0
  injection m0 with e1 _ _
  injection e1 with e1
  injection e1 with e1 _ _
  subst e1
  obtain ⟨q1, q2⟩ := sl.elem
  have hcl : k < cs.length := by simp [Enc.size] at m4; omega
  have hfc := run_firstCells_some (P := P) w 1 1 ad m cy [.int .i64 v] rfl (fun j u hj => by
    have : j = 0 := by have := (List.getElem?_eq_some_iff.1 hj).1; simp at this; exact this
    subst this
    simp at hj
    subst hj
    simpa [Addr.add] using v2)
  have hst := run_storeCells_at (P := P) b k te [.int .i64 v] 0 cs.toArray w m2 (by simp; omega) (fun u hu => by simp at hu; subst hu; rfl)
  let cs' := cs.take k ++ [.int .i64 v] ++ cs.drop (k + 1)
  have hw : Wr G w o b cs cs' te := ⟨m2, m6, by simp [cs']; omega, by omega⟩
  have hst' : (storeCells ⟨b, k, none⟩ [.int .i64 v]).run P w = .ok () (w.setRow b cs'.toArray) := by
    simpa [cs'] using hst
  have hlen : (Builtin.lenOf (.slice (some ad) m cy)).run P w = .ok m w := by simp [Builtin.lenOf]
  have hcopy : (Builtin.copy_ #[t, t2] T #[.slice (some ⟨b, k, none⟩) n c, .slice (some ad) m cy]).run P w = .ok (goInt 1) (w.setRow b cs'.toArray) := by
    have hsz := sl.el.size w
    have h11 : Nat.min m n = 1 := h1
    simp only [Builtin.copy_, List.getElem?_toArray, List.getElem?_cons_zero, List.getElem?_cons_succ, Sem.run_bind, run_underlying q1, Result.andThen_ok, hlen, q2, hsz, h11]
    rw [show Enc.size Int = 1 from rfl, hfc]
    simp only [Result.andThen_ok, Sem.run_bind, hst', Sem.run_pure]
    rfl
  have hexec : (execOp a.eval ⟨some d, .call { callee := .builtin .copy, args := #[x, y], argTypes := #[t, t2] }, T, pos, aft, none⟩).run P w = .ok (.value (goInt 1)) (w.setRow b cs'.toArray) := by
    simp only [execOp, resolve, invoke, builtin, List.map_toArray, List.map_cons, List.map_nil, Sem.run_bind, Sem.run_pure, Result.andThen_ok, u1, v1, hcopy]
  unfold Oper.wp
  rw [hexec]
  simp only [Oper.upon]
  refine hK _ _ G ?_ (hw.keep S)
  have hrow : RelO G (w.setRow b cs'.toArray) o (.arr (xs.set k v)) := by
    refine ⟨b, cap, cs', te, by simpa using m1, setRow_heap _ _ _ _ _ _ m2, by simpa using m3, by rw [hw.len]; exact m4, fun i u hi => ?_, fun i hi => m6 i (by rw [hw.len] at hi; exact hi)⟩
    refine ⟨[.int .i64 u], rfl, fun j q hj => ?_⟩
    have : j = 0 := by have := (List.getElem?_eq_some_iff.1 hj).1; simp at this; exact this
    subst this
    simp at hj
    subst hj
    simp only [show Enc.size Int = 1 from rfl, Nat.mul_one, Nat.add_zero, cs']
    by_cases hik : i = k
    · subst hik
      rw [List.getElem?_set_self hk] at hi
      injection hi with hi
      subst hi
      rw [List.append_assoc, List.getElem?_append_right (by simp; omega)]
      simp [Nat.min_eq_left (Nat.le_of_lt hcl)]
    · rw [List.getElem?_set_ne (Ne.symm hik)] at hi
      obtain ⟨ce, r1, r2⟩ := m5 i u hi
      have hce : ce = [.int .i64 u] := r1
      subst hce
      have := r2 0 _ rfl
      simp only [show Enc.size Int = 1 from rfl, Nat.mul_one, Nat.add_zero] at this
      rw [← this]
      rcases Nat.lt_or_ge i k with h | h
      · rw [List.append_assoc, List.getElem?_append_left (by simp; omega), List.getElem?_take, if_pos h]
      · rw [List.getElem?_append_right (by simp; omega), List.getElem?_drop]
        congr 1
        simp
        omega
  have := (hr.write hw hrow).put (d := d) (av := some (.v (1 : Int))) hd' (relInt _ _ _ _)
  exact this
end Go.Wt
namespace Go.Wt
open Go
variable {P : Program} {S : Nat → Prop} {ops : Array Oper} {st : St}
variable {d : Nat} {T t' : TypeId} {pos : String} {aft : Array Edge} {x y z : Operand}
/-- A new row of noughts, as a named object. -/
theorem op_mkA {o : Nat} {t E : TypeId} {bytes : Nat} {n : Int} (sl : SlOk P t E bytes Int) (hz : ZeroOk P E (0 : Int)) (hx : st.ev x = some (.v n)) (h0 : 0 ≤ n) (hb : (bytes : Int) * n ≤ 281474976710656) (hn63 : n ≤ 9223372036854775807) (ho : st.ob o = .free) (hn : Nat.blt d st.n = true) :
    OpOk P S ops ⟨some d, .makeSlice t x x, T, pos, aft, none⟩ (opT x ++ opT x) [o] [(d, some (.v (NRef.ref o)))] [(o, .arr (List.replicate n.toNat (0 : Int)))] st := by
  intro st1 hg G w a hr K Q hK
  unfold stepO
  rw [if_pos (by simp [Region.wanted])]
  refine .inl ?_
  obtain ⟨hu, i, hi, hby, hsz⟩ := sl.spec
  obtain ⟨i', zcs, k1, k2, k3⟩ := hz.ok
  rw [hi] at k1
  injection k1 with k1
  subst k1
  have hzc : zcs = [.int .i64 0] := k3 G w ω0
  subst hzc
  have e1 := RelV.int (hr.at hg hx fun t ht => by simp [ht])
  have hrun := run_make (P := P) w t E i _ hu hi k2 .i64 .i64 n n h0 (Int.le_refl _) (by rw [hby]; exact hb) hn63
  have hcells : madeCells (Enc.val Int [.int .i64 0]).cells (n.toNat * i.size) = (List.replicate n.toNat (Value.int .i64 0)).toArray := by
    have : (Enc.val Int [.int .i64 0]).cells = #[Value.int .i64 0] := rfl
    rw [this, ← toList_madeCells_one, hsz]
    simp [Enc.size]
  rw [hcells] at hrun
  have hexec : (execOp a.eval ⟨some d, .makeSlice t x x, T, pos, aft, none⟩).run P w = .ok (.value (.slice (some ⟨w.heap.size, 0, none⟩) n.toNat n.toNat)) (w.alloc (.cells (List.replicate n.toNat (Value.int .i64 0)).toArray E)) := by
    simp only [execOp, e1, Sem.run_bind, hrun, Result.andThen_ok, Sem.run_pure]
  unfold Oper.wp
  rw [hexec]
  simp only [Oper.upon]
  have hrow : Rows G w (List.replicate n.toNat (0 : Int)) (List.replicate n.toNat (Value.int .i64 0)) := by
    refine ⟨by simp [Enc.size], fun j u hj => ⟨[.int .i64 u], rfl, fun q v hq => ?_⟩⟩
    have : q = 0 := by have := (List.getElem?_eq_some_iff.1 hq).1; simp at this; exact this
    subst this
    simp at hq
    subst hq
    have hj' := List.getElem?_eq_some_iff.1 hj
    obtain ⟨hl, he⟩ := hj'
    simp at hl he
    subst he
    simp [Enc.size, hl]
  obtain ⟨G', h1, h2, h3⟩ := hr.newarr (o := o) (e := E) (cap := n.toNat) (by rw [hg.ob o (by simp), ho]) hrow (by simp) (by simp [Enc.size])
  refine hK _ _ G' ?_ (h2 S)
  rw [← St.upd_upd]
  simp only [List.length_replicate] at h3
  exact h1.put (av := some _) (by show d < st1.n; rw [hg.n]; simpa using hn) ⟨_, ⟨_, _, _, rfl, h3⟩, rfl⟩
/-! ### Numbers without a sign -/
structure UN where
  n : Int
instance : Enc UN := scalarEnc (fun n => .int .u64 n.n) (fun _ => rfl)
instance : Plain UN := ⟨fun _ => rfl, fun _ => rfl⟩
theorem RelV.un {G w ω u} {n : UN} (h : RelV G w ω (.v n) u) : u = .int .u64 n.n := by obtain ⟨cs, h1, h2⟩ := h; rw [h2, show cs = [.int .u64 n.n] from h1]; rfl
theorem relUN (G w ω) (n : UN) : RelV G w ω (.v n) (.int .u64 n.n) := ⟨[.int .u64 n.n], rfl, rfl⟩
theorem wrap_u64 {m : Int} (h : 0 ≤ m ∧ m < 18446744073709551616) : IntKind.u64.wrap m = m := by
  simp [IntKind.wrap, IntKind.signed, IntKind.bits]
  omega
theorem op_cvU {s t : TypeId} {m : Int} (hx : st.ev x = some (.v m)) (hn : Nat.blt d st.n = true) (hs : (P.underlying s).isSome = true) (ht : P.underlying t = some (.int .u64)) (hm : 0 ≤ m ∧ m < 18446744073709551616) :
    OpOk P S ops ⟨some d, .convert s t x, T, pos, aft, none⟩ (opT x) [] [(d, some (.v (UN.mk m)))] [] st :=
  OpOk.value rfl rfl (by simpa using hn) fun st1 hag G w a hr => ⟨.int .u64 m, by
    have e1 := RelV.int (hr.at hag hx fun t ht => ht)
    obtain ⟨ds, hds⟩ := Option.isSome_iff_exists.1 hs
    simp only [execOp, e1, convert, Sem.run_bind, run_underlying hds, run_underlying ht, Result.andThen_ok]
    cases ds <;> simp [Conv.intToInt, wrap_u64 hm], relUN _ _ _ _⟩
theorem op_cvI {s t : TypeId} {m : UN} (hx : st.ev x = some (.v m)) (hn : Nat.blt d st.n = true) (hs : (P.underlying s).isSome = true) (ht : P.underlying t = some (.int .i64)) (hm : 0 ≤ m.n ∧ m.n < 9223372036854775808) :
    OpOk P S ops ⟨some d, .convert s t x, T, pos, aft, none⟩ (opT x) [] [(d, some (.v m.n))] [] st :=
  OpOk.value rfl rfl (by simpa using hn) fun st1 hag G w a hr => ⟨.int .i64 m.n, by
    have e1 := RelV.un (hr.at hag hx fun t ht => ht)
    obtain ⟨ds, hds⟩ := Option.isSome_iff_exists.1 hs
    have hb : IntKind.i64.wrap m.n = m.n := wrap_in (by omega)
    simp only [execOp, e1, convert, Sem.run_bind, run_underlying hds, run_underlying ht, Result.andThen_ok]
    cases ds <;> simp [Conv.intToInt, hb], relInt _ _ _ _⟩
theorem un_bin {t : TypeId} {op : BinOp} {av : AV} {u : Value} {m n : UN} (hx : st.ev x = some (.v m)) (hy : st.ev y = some (.v n)) (hn : Nat.blt d st.n = true)
    (h1 : ∀ w : World, (binOp op t (.int .u64 m.n) (.int .u64 n.n)).run P w = .ok u w) (h3 : ∀ G w ω, RelV G w ω av u) :
    OpOk P S ops ⟨some d, .binOp op t x y t', T, pos, aft, none⟩ (opT x ++ opT y) [] [(d, some av)] [] st :=
  bin_value hn fun st1 hag G w a hr => by
    have e1 := RelV.un (hr.at hag hx fun t ht => by simp [ht])
    have e2 := RelV.un (hr.at hag hy fun t ht => by simp [ht])
    refine ⟨u, by rw [e1, e2]; exact h1 w, by rw [e1, eqGuard_at_int]; rfl, h3 _ _ _⟩
/-- With a constant. -/
theorem un_binc {t : TypeId} {op : BinOp} {av : AV} {u c : Value} {m : UN} (hx : st.ev x = some (.v m)) (hn : Nat.blt d st.n = true)
    (h1 : ∀ w : World, (binOp op t (.int .u64 m.n) c).run P w = .ok u w) (h3 : ∀ G w ω, RelV G w ω av u) :
    OpOk P S ops ⟨some d, .binOp op t x (.const c) t', T, pos, aft, none⟩ (opT x) [] [(d, some av)] [] st :=
  bin_value hn fun st1 hag G w a hr => by
    have e1 := RelV.un (hr.at hag hx fun t ht => by simp [ht])
    refine ⟨u, by rw [e1]; exact h1 w, by rw [e1, eqGuard_at_int]; rfl, h3 _ _ _⟩
end Go.Wt
namespace Go.Wt
open Go
variable {P : Program} {S : Nat → Prop} {ops : Array Oper} {st : St} {d : Nat} {T : TypeId} {pos : String} {aft : Array Edge}
theorem op_asU {n : Int} (hn : Nat.blt d st.n = true) : OpOk P S ops ⟨some d, .assign (.const (.int .u64 n)), T, pos, aft, none⟩ [] [] [(d, some (.v (UN.mk n)))] [] st :=
  OpOk.value rfl rfl (by simpa using hn) fun st1 hag G w a hr => ⟨.int .u64 n, rfl, relUN _ _ _ _⟩
end Go.Wt
namespace Go.Wt
open Go
variable {P : Program} {S : Nat → Prop} {ops : Array Oper} {st : St}
variable {d : Nat} {T : TypeId} {pos : String} {aft : Array Edge} {x y z u : Operand}
theorem op_slAhm {E bytes t : TypeId} {o : Nat} {xs : List Int} {h : Int} (sl : SlOk P t E bytes Int) (hx : st.ev x = some (.v (NRef.ref o))) (hy : st.ev z = some (.v h)) (hu : st.ev u = some (.v h)) (ho : st.ob o = .arr xs) (hn : Nat.blt d st.n = true) (hb : h = xs.length) :
    OpOk P S ops ⟨some d, .slice t x none (some z) (some u), T, pos, aft, none⟩ (opT x ++ opT z ++ opT u) [o] [(d, some (.v (SRef.mk o 0 xs.length)))] [] st :=
  OpOk.value rfl rfl (by simpa using hn) fun st1 hag G w a hr => by
    obtain ⟨ad, n, c, h1, h2⟩ := RelV.ref (hr.at hag hx fun t ht => by simp [ht])
    have e2 := RelV.int (hr.at hag hy fun t ht => by simp [ht])
    have e4 := RelV.int (hr.at hag hu fun t ht => by simp [ht])
    have hob := hr.objs o
    rw [hag.ob o (by simp), ho] at hob
    obtain ⟨b, cap, cs, e, k1, k2', k3', _⟩ := hob
    have k0 := k1
    rw [h2] at k1
    injection k1 with k1
    injection k1 with k1 k2 k3
    subst k1 k2 k3
    obtain ⟨q1, q2⟩ := sl.elem
    refine ⟨sliced (some ⟨b, 0, none⟩) 0 h.toNat h.toNat (Enc.size Int), ?_, [_], ⟨b, xs.length, h.toNat, c, ?_, k0, by show xs.length ≤ h.toNat; omega⟩, by simp [Enc.val, Enc.agg]; rfl⟩
    · simp only [execOp, h1, e2, e4, Option.map_none, Option.map_some, Sem.run_bind, run_sliceAt_slice _ _ _ _ _ _ q1, run_slice_hm w t _ xs.length c q1 .i64 .i64 h h (by omega) (by omega) (by omega), q2, sl.el.size, Result.andThen_ok, Sem.run_pure]
    · have hh : h.toNat = xs.length := by omega
      simp only [sliced, hh]
      split <;> simp [Addr.add]
theorem op_ixS {E bytes t : TypeId} {o n : Nat} {i : Int} (sl : SlOk P t E bytes Int) (hx : st.ev x = some (.v (SRef.mk o 0 n))) (hy : st.ev y = some (.v i)) (hn : Nat.blt d st.n = true)
    (h0 : 0 ≤ i ∧ i < (n : Int)) : OpOk P S ops ⟨some d, .indexAddr t x y, T, pos, aft, none⟩ (opT x ++ opT y) [] [(d, some (.elm o i.toNat (IsLens.whole Int)))] [] st :=
  OpOk.value rfl rfl (by simpa using hn) fun st1 hag G w a hr => by
    obtain ⟨b, m, c, c', h1, h2, _⟩ := RelV.sref (hr.at hag hx fun t ht => by simp [ht])
    have e2 := RelV.int (hr.at hag hy fun t ht => by simp [ht])
    refine ⟨.pointer (some ⟨b, i.toNat * Enc.size Int, none⟩), ?_, b, _, _, h2, by simp⟩
    have hsz := sl.el.size w
    simp only [execOp, Instr.indexAt, Sem.run_bind, h1, e2, asIntOf, Sem.run_pure, Result.andThen_ok, run_underlying sl.spec.1]
    simp [h0, hsz, add_lit]
/-- A row that is handed out for good. -/
theorem frz_sref {o : Nat} {xs : List Int} (hB : xs.length ≤ big) : ∀ (G : Gh) (wd : Go.World) (u : Value), RelV G wd (.ret, []) (.v (SRef.mk o 0 xs.length)) u → (∀ k, RelO G wd k (Go.Wt.obs [(o, .arr xs)] k)) →
    ∃ G', RelV G' wd (.ret, []) (.v xs) u ∧ (∀ o, RelO G' wd o .free) ∧ ∀ S, (∀ o, ¬ S o) → Keep S G wd G' wd := by
  intro G wd u h ho
  obtain ⟨b, m, c, c', h1, h2, h3⟩ := RelV.sref h
  obtain ⟨b', n, k1, k2, k3, k4, k5⟩ := frz_elems (by have := ho o; simpa [obs, lk0, orr] using this) hB
  have k0 := k1
  rw [h2] at k1
  injection k1 with k1
  injection k1 with e1 _ _
  injection e1 with e1
  injection e1 with e1 _ _
  subst e1
  exact ⟨_, ⟨[u], ⟨some ⟨b, 0, none⟩, c, by rw [h1], h3, k5⟩, rfl⟩, frz_free, k3⟩
end Go.Wt
namespace Go.Wt
/-! ### Books -/
def payF (b : List Int) (p : Pay) : List Int :=
  if p.sum ≤ b.getD (p.frm - 1).toNat 0 then
    (b.set (p.frm - 1).toNat (b.getD (p.frm - 1).toNat 0 - p.sum)).set (p.to - 1).toNat ((b.set (p.frm - 1).toNat (b.getD (p.frm - 1).toNat 0 - p.sum)).getD (p.to - 1).toNat 0 + p.sum)
  else b
def bookF (c : List Itm) : List Int := c.foldl (fun b x => payF b x.pay) [9, 9, 9]
def Bk (b : List Int) : Prop := ∃ x y z : Int, b = [x, y, z] ∧ 0 ≤ x ∧ 0 ≤ y ∧ 0 ≤ z ∧ x + y + z = 27
theorem Bk.new : Bk [9, 9, 9] := ⟨9, 9, 9, rfl, by decide, by decide, by decide, by decide⟩
theorem pay_bd {p : Pay} (h : payOk p = true) : (1 ≤ p.frm ∧ p.frm ≤ 3) ∧ (1 ≤ p.to ∧ p.to ≤ 3) ∧ p.frm ≠ p.to ∧ 1 ≤ p.sum ∧ p.sum ≤ 9 := by
  simp only [payOk, within, Bool.and_eq_true, decide_eq_true_eq, bne_iff_ne] at h
  exact ⟨h.1.1.1, h.1.1.2, h.1.2, h.2⟩
theorem Bk.pay {b : List Int} {p : Pay} (h : Bk b) (hp : payOk p = true) : Bk (payF b p) := by
  obtain ⟨x, y, z, rfl, hx, hy, hz, hs⟩ := h
  obtain ⟨h1, h2, h3, h4⟩ := pay_bd hp
  obtain ⟨f, t, s⟩ := p
  simp only at h1 h2 h3 h4
  have hf : f = 1 ∨ f = 2 ∨ f = 3 := by omega
  have ht : t = 1 ∨ t = 2 ∨ t = 3 := by omega
  unfold payF
  split
  · rename_i hh
    rcases hf with rfl | rfl | rfl <;> rcases ht with rfl | rfl | rfl <;> first | (exfalso; omega) | (simp at hh ⊢; exact ⟨_, _, _, rfl, by omega, by omega, by omega, by omega⟩)
  · exact ⟨x, y, z, rfl, hx, hy, hz, hs⟩
theorem Bk.at {b : List Int} (h : Bk b) {k : Nat} (hk : k < 3) : ∃ v, b[k]? = some v ∧ b.getD k 0 = v ∧ 0 ≤ v ∧ v ≤ 27 := by
  obtain ⟨x, y, z, rfl, hx, hy, hz, hs⟩ := h
  have : k = 0 ∨ k = 1 ∨ k = 2 := by omega
  rcases this with rfl | rfl | rfl
  · exact ⟨x, rfl, rfl, hx, by omega⟩
  · exact ⟨y, rfl, rfl, hy, by omega⟩
  · exact ⟨z, rfl, rfl, hz, by omega⟩
theorem Bk.len {b : List Int} (h : Bk b) : b.length = 3 := by obtain ⟨x, y, z, rfl, _⟩ := h; rfl
theorem chainFrom_pay : ∀ (c : List Itm) (e : Int), chainFrom e c = true → ∀ x ∈ c, payOk x.pay = true
  | [], _, _, x, hx => by cases hx
  | y :: c, e, h, x, hx => by
    simp only [chainFrom, Bool.and_eq_true] at h
    rcases List.mem_cons.1 hx with rfl | hx
    · exact h.1.1.2
    · exact chainFrom_pay c _ h.2 x hx
theorem chainOk_pay {c : List Itm} (h : chainOk c = true) : ∀ x ∈ c, payOk x.pay = true := by
  simp only [chainOk, Bool.and_eq_true] at h
  exact chainFrom_pay c 0 h.1
theorem fold_bk : ∀ (l : List Itm) {b : List Int}, Bk b → (∀ x ∈ l, payOk x.pay = true) → Bk (l.foldl (fun b x => payF b x.pay) b)
  | [], _, h, _ => h
  | x :: l, _, h, hp => fold_bk l (h.pay (hp x (by simp))) fun y hy => hp y (by simp [hy])
end Go.Wt
namespace Go.Wt
def psum (b : List Int) (k : Nat) : Int := (b.take k).foldl (fun (s v : Int) => s + v) 0
theorem book_bk {c : List Itm} (h : chainOk c = true) : Bk (bookF c) := fold_bk c Bk.new (chainOk_pay h)
end Go.Wt

/- Books. -/
set_option linter.unusedVariables false
set_option linter.unusedSimpArgs false
namespace Go.Proofs.YtgfoeiieopnlaaaGreatDoor
open Go Go.Wt
theorem mul64_ct : CtP Tryz.prog 169 [.v (UN.mk 1), .v (UN.mk 3)] (.tup [.v (UN.mk 0), .v (UN.mk 3)]) := by
  refine Ct.intro Tryz.func169 rfl rfl ?_
  refine aS (aR ?_)
  refine oC (op_asU rfl) ?_
  refine oC (op_asU rfl) ?_
  refine oN ?_
  refine aS (aR ?_)
  refine oC (oM rfl (Conv.of rfl) rfl) ?_
  refine oC (un_binc rfl rfl (fun w => rfl) (fun G w ω => relUN G w ω ⟨1⟩)) ?_
  refine oC (oA rfl (Conv.of rfl) rfl) ?_
  refine oN ?_
  refine aS (aR ?_)
  refine oC (oM rfl (Conv.of rfl) rfl) ?_
  refine oC (un_binc rfl rfl (fun w => rfl) (fun G w ω => relUN G w ω ⟨0⟩)) ?_
  refine oC (oA rfl (Conv.of rfl) rfl) ?_
  refine oN ?_
  refine aS (aR ?_)
  refine oC (oM rfl (Conv.of rfl) rfl) ?_
  refine oC (un_binc rfl rfl (fun w => rfl) (fun G w ω => relUN G w ω ⟨3⟩)) ?_
  refine oC (oA rfl (Conv.of rfl) rfl) ?_
  refine oN ?_
  refine aS (aR ?_)
  refine oC (oM rfl (Conv.of rfl) rfl) ?_
  refine oC (un_binc rfl rfl (fun w => rfl) (fun G w ω => relUN G w ω ⟨0⟩)) ?_
  refine oC (oA rfl (Conv.of rfl) rfl) ?_
  refine oN ?_
  refine aS (aR ?_)
  refine oC (oM rfl (Conv.of rfl) rfl) ?_
  refine oC (oM rfl (Conv.of rfl) rfl) ?_
  refine oC (un_bin rfl rfl rfl (fun w => rfl) (fun G w ω => relUN G w ω ⟨3⟩)) ?_
  refine oC (oA rfl (Conv.of rfl) rfl) ?_
  refine oN ?_
  refine aS (aR ?_)
  refine oC (oM rfl (Conv.of rfl) rfl) ?_
  refine oC (oM rfl (Conv.of rfl) rfl) ?_
  refine oC (un_bin rfl rfl rfl (fun w => rfl) (fun G w ω => relUN G w ω ⟨0⟩)) ?_
  refine oC (oM rfl (Conv.of rfl) rfl) ?_
  refine oC (un_binc rfl rfl (fun w => rfl) (fun G w ω => relUN G w ω ⟨0⟩)) ?_
  refine oC (un_bin rfl rfl rfl (fun w => rfl) (fun G w ω => relUN G w ω ⟨0⟩)) ?_
  refine oC (oA rfl (Conv.of rfl) rfl) ?_
  refine oN ?_
  refine aS (aR ?_)
  refine oC (oM rfl (Conv.of rfl) rfl) ?_
  refine oC (un_binc rfl rfl (fun w => rfl) (fun G w ω => relUN G w ω ⟨0⟩)) ?_
  refine oC (oA rfl (Conv.of rfl) rfl) ?_
  refine oN ?_
  refine aS (aR ?_)
  refine oC (oM rfl (Conv.of rfl) rfl) ?_
  refine oC (un_binc rfl rfl (fun w => rfl) (fun G w ω => relUN G w ω ⟨0⟩)) ?_
  refine oC (oA rfl (Conv.of rfl) rfl) ?_
  refine oN ?_
  refine aS (aR ?_)
  refine oC (oM rfl (Conv.of rfl) rfl) ?_
  refine oC (oM rfl (Conv.of rfl) rfl) ?_
  refine oC (oM rfl (Conv.of rfl) rfl) ?_
  refine oC (un_bin rfl rfl rfl (fun w => rfl) (fun G w ω => relUN G w ω ⟨0⟩)) ?_
  refine oC (un_bin rfl rfl rfl (fun w => rfl) (fun G w ω => relUN G w ω ⟨0⟩)) ?_
  refine oC (oA rfl (Conv.of rfl) rfl) ?_
  refine oN ?_
  refine aS (aR ?_)
  refine oC (oM rfl (Conv.of rfl) rfl) ?_
  refine oC (oM rfl (Conv.of rfl) rfl) ?_
  refine oC (un_bin rfl rfl rfl (fun w => rfl) (fun G w ω => relUN G w ω ⟨0⟩)) ?_
  refine oC (oM rfl (Conv.of rfl) rfl) ?_
  refine oC (un_bin rfl rfl rfl (fun w => rfl) (fun G w ω => relUN G w ω ⟨0⟩)) ?_
  refine oC (oM rfl (Conv.of rfl) rfl) ?_
  refine oC (un_binc rfl rfl (fun w => rfl) (fun G w ω => relUN G w ω ⟨0⟩)) ?_
  refine oC (un_bin rfl rfl rfl (fun w => rfl) (fun G w ω => relUN G w ω ⟨0⟩)) ?_
  refine oC (oA rfl (Conv.of rfl) rfl) ?_
  refine oN ?_
  refine aS (aR ?_)
  refine oC (oM rfl (Conv.of rfl) rfl) ?_
  refine oC (oM rfl (Conv.of rfl) rfl) ?_
  refine oC (un_bin rfl rfl rfl (fun w => rfl) (fun G w ω => relUN G w ω ⟨3⟩)) ?_
  refine oC (oA rfl (Conv.of rfl) rfl) ?_
  refine oN ?_
  refine aT ?_
  repeat first | refine rS ?_ | refine rB ?_
  exact finN (.cons (.v rfl (Conv.of rfl)) (.cons (.v rfl (Conv.of rfl)) .nil)) rfl rfl rfl
theorem mul_ct : CtP Tryz.prog 155 [.v (UN.mk 1), .v (UN.mk 3)] (.tup [.v (UN.mk 0), .v (UN.mk 3)]) := by
  refine Ct.intro Tryz.func155 rfl rfl ?_
  refine aS (aR ?_)
  refine oC (op_asU rfl) ?_
  refine oC (op_asU rfl) ?_
  refine oN ?_
  refine aS (aC rfl (fun h => absurd h (by decide)) (fun h => ?_))
  refine aW ?_
  refine aS (aR ?_)
  refine oC (oM rfl (Conv.of rfl) rfl) ?_
  refine oC (oM rfl (Conv.of rfl) rfl) ?_
  refine oC (oL fb169 (.cons rfl (Conv.of rfl) (.cons rfl (Conv.of rfl) (.nil _))) (mul64_ct) (aK rfl rfl (aK rfl rfl aK0)) rfl rfl) ?_
  refine oC (oM rfl (Conv.of rfl) rfl) ?_
  refine oC (op_ext rfl rfl rfl) ?_
  refine oC (op_ext rfl rfl rfl) ?_
  refine oC (oA rfl (Conv.of rfl) rfl) ?_
  refine oC (oA rfl (Conv.of rfl) rfl) ?_
  refine oN ?_
  refine aS (aR ?_)
  refine oC (oM rfl (Conv.of rfl) rfl) ?_
  refine oC (oM rfl (Conv.of rfl) rfl) ?_
  refine oC (oA rfl (Conv.of rfl) rfl) ?_
  refine oC (oA rfl (Conv.of rfl) rfl) ?_
  refine oN ?_
  refine aT ?_
  repeat first | refine rS ?_ | refine rB ?_
  exact finN (.cons (.v rfl (Conv.of rfl)) (.cons (.v rfl (Conv.of rfl)) .nil)) rfl rfl rfl
def rep3 (k : Nat) : List Int := List.replicate k 9 ++ List.replicate (3 - k) 0
theorem repeat_ct : Ct Tryz.prog 124 [.v ([9] : List Int), .v (3 : Int)] noObj (fun r h => r = .v (NRef.ref 2) ∧ h = obs [(2, .arr ([9, 9, 9] : List Int))]) := by
  have hsl := sl87
  have hz : ZeroOk Tryz.prog 3 (0 : Int) := zero_mk (by kernel_rfl)
  refine Ct.intro Tryz.func124 rfl rfl ?_
  all_goals refine aS (aR ?_)
  all_goals refine oC (oA rfl (Conv.of rfl) rfl) ?_
  all_goals refine oN ?_
  all_goals refine aS (aS (aR ?_))
  all_goals refine oC (oM rfl (Conv.of rfl) rfl) ?_
  all_goals refine oC (oLt rfl rfl rfl) ?_
  all_goals refine oN ?_
  refine aC rfl (fun h => absurd h (by decide)) (fun h => ?_)
  refine aW ?_
  all_goals refine aS (aR ?_)
  all_goals refine oC (oM rfl (Conv.of rfl) rfl) ?_
  all_goals refine oC (oE sl87 rfl rfl) ?_
  all_goals refine oC (op_cvU rfl rfl (by kernel_rfl) (by kernel_rfl) (by decide)) ?_
  all_goals refine oC (oM rfl (Conv.of rfl) rfl) ?_
  all_goals refine oC (op_cvU rfl rfl (by kernel_rfl) (by kernel_rfl) (by decide)) ?_
  all_goals refine oC (oL fb155 (.cons rfl (Conv.of rfl) (.cons rfl (Conv.of rfl) (.nil _))) (mul_ct) (aK rfl rfl (aK rfl rfl aK0)) rfl rfl) ?_
  all_goals refine oC (oM rfl (Conv.of rfl) rfl) ?_
  all_goals refine oC (op_ext rfl rfl rfl) ?_
  all_goals refine oC (op_ext rfl rfl rfl) ?_
  all_goals refine oC (oA rfl (Conv.of rfl) rfl) ?_
  all_goals refine oC (oA rfl (Conv.of rfl) rfl) ?_
  all_goals refine oN ?_
  refine aS (aST (s' := mkSt 48 [(0, .v ([9] : List Int)), (6, .v (UN.mk 3)), (26, .v false)] []) ?_ ?_)
  · all_goals refine aR ?_
    all_goals refine oC (oM rfl (Conv.of rfl) rfl) ?_
    all_goals refine oC (un_binc rfl rfl (fun w => rfl) (fun G w ω => relBool G w ω false)) ?_
    all_goals refine oC (oM rfl (Conv.of rfl) rfl) ?_
    all_goals refine g_lit (t := 23) (b := false) rfl ?_
    all_goals refine oC (gN rfl rfl rfl (oM rfl (Conv.of rfl) rfl)) ?_
    all_goals refine oC (gN rfl rfl rfl (un_binc rfl rfl (fun w => rfl) (fun G w ω => relBool G w ω false))) ?_
    all_goals refine oC (oQ rfl rfl rfl rfl) ?_
    all_goals refine oN ?_
    all_goals exact Le.mk rfl (tle rfl (rfl) rfl (tle rfl (rfl) rfl (tle rfl (by rfl) rfl tln))) oln noS
  refine aC rfl (fun h => absurd h (by decide)) (fun h => ?_)
  refine aW ?_
  all_goals refine aS (aR ?_)
  all_goals refine oC (oM rfl (Conv.of rfl) rfl) ?_
  all_goals refine oC (op_cvI rfl rfl (by kernel_rfl) (by kernel_rfl) (by decide)) ?_
  all_goals refine oC (op_mkA (o := 2) hsl hz rfl (by decide) (by decide) (by decide) rfl rfl) ?_
  all_goals refine oC (oA rfl (Conv.of rfl) rfl) ?_
  all_goals refine oN ?_
  all_goals refine aS (aR ?_)
  all_goals refine oC (oM rfl (Conv.of rfl) rfl) ?_
  all_goals refine oC (oM rfl (Conv.of rfl) rfl) ?_
  all_goals refine oC (op_copy1 hsl (dst_ref rfl (fun t ht => List.mem_append_left _ ht) rfl (by simp)) (fst_list (v := 9) (l := []) rfl (fun t ht => List.mem_append_right _ ht)) rfl (by decide) rfl rfl) ?_
  all_goals refine oC (oA rfl (Conv.of rfl) rfl) ?_
  all_goals refine oN ?_
  refine aS (aB ?_)
  refine awp_loop' (fun n_ s => ∃ (k : Nat), ∃ (hk : n_ + k = 3), ∃ (h1 : 1 ≤ k), s = mkSt 48 [(7, .v (NRef.ref 2)), (8, .v (k : Int))] [(2, .arr (rep3 k))]) (2) ⟨1, by omega, by omega, rfl⟩ (Le.mk rfl (tlb rfl rfl rfl (tle rfl (by rfl) rfl tln)) (olk (by rfl) (by exact bA) oln) noS) ?_
  rintro n_ s ⟨k, hk, h1, rfl⟩
  all_goals refine aS (aS (aR ?_))
  all_goals refine oC (oM rfl (Conv.of rfl) rfl) ?_
  all_goals refine oC (oM rfl (Conv.of rfl) rfl) ?_
  all_goals refine oC (oEA sl87 rfl rfl rfl) ?_
  all_goals refine oC (oLt rfl rfl rfl) ?_
  all_goals refine oN ?_
  refine aC rfl (fun h => ?_) (fun h => ?_)
  · have hcase : k = 1 ∨ k = 2 := by simp [rep3] at h; omega
    rcases hcase with rfl | rfl
    · refine aW ?_
      refine aB ?_
      all_goals refine dS ?_
      all_goals refine dC (oM rfl (Conv.of rfl) rfl) ?_
      all_goals refine dC (oM rfl (Conv.of rfl) rfl) ?_
      all_goals refine dC (oM rfl (Conv.of rfl) rfl) ?_
      all_goals refine dC (op_slA hsl rfl rfl rfl rfl (by decide)) ?_
      all_goals refine dC (oM rfl (Conv.of rfl) rfl) ?_
      all_goals refine dC (oM rfl (Conv.of rfl) rfl) ?_
      all_goals refine dC (op_slAh hsl rfl rfl rfl rfl (by decide)) ?_
      all_goals refine dC (op_copy1 (v := 9) hsl (dst_sref rfl (fun t ht => List.mem_append_left _ ht)) (fst_sref rfl (fun t ht => List.mem_append_right _ ht) rfl (by simp) rfl) rfl (by decide) rfl rfl) ?_
      all_goals refine dC (oP rfl rfl rfl (by decide)) ?_
      all_goals refine dC (oA rfl (Conv.of rfl) rfl) ?_
      all_goals refine dr_nil mixed rfl ?_
      repeat first | refine nS ?_ | refine nB ?_
      exact ⟨1, _, by omega, ⟨2, by omega, by omega, rfl⟩, Le.mk rfl (tlb rfl rfl rfl (tle rfl (by rfl) rfl tln)) (olk (by rfl) (by exact bA) oln) noS⟩
    · refine aW ?_
      refine aB ?_
      all_goals refine dS ?_
      all_goals refine dC (oM rfl (Conv.of rfl) rfl) ?_
      all_goals refine dC (oM rfl (Conv.of rfl) rfl) ?_
      all_goals refine dC (oM rfl (Conv.of rfl) rfl) ?_
      all_goals refine dC (op_slA hsl rfl rfl rfl rfl (by decide)) ?_
      all_goals refine dC (oM rfl (Conv.of rfl) rfl) ?_
      all_goals refine dC (oM rfl (Conv.of rfl) rfl) ?_
      all_goals refine dC (op_slAh hsl rfl rfl rfl rfl (by decide)) ?_
      all_goals refine dC (op_copy1 (v := 9) hsl (dst_sref rfl (fun t ht => List.mem_append_left _ ht)) (fst_sref rfl (fun t ht => List.mem_append_right _ ht) rfl (by simp) rfl) rfl (by decide) rfl rfl) ?_
      all_goals refine dC (oP rfl rfl rfl (by decide)) ?_
      all_goals refine dC (oA rfl (Conv.of rfl) rfl) ?_
      all_goals refine dr_nil mixed rfl ?_
      repeat first | refine nS ?_ | refine nB ?_
      exact ⟨0, _, by omega, ⟨3, by omega, by omega, rfl⟩, Le.mk rfl (tlb rfl rfl rfl (tle rfl (by rfl) rfl tln)) (olk (by rfl) (by exact bA) oln) noS⟩
  · refine aE ?_
    repeat refine ex_seq ?_
    refine eB ?_
    have hk3 : k = 3 := by simp [rep3] at h; omega
    subst hk3
    all_goals refine aS (aR ?_)
    all_goals refine oC (oM rfl (Conv.of rfl) rfl) ?_
    all_goals refine oC (oA rfl (Conv.of rfl) rfl) ?_
    all_goals refine oN ?_
    refine aT ?_
    repeat first | refine rS ?_ | refine rB ?_
    refine ⟨_, _, res1 (ol := [(2, .arr (rep3 3))]) (.v rfl (Conv.of rfl)) (fun o ho => ?_) (olk rfl bA oln) noS, rfl, rfl⟩
    have : o = 2 := by simpa using (show o ∈ [2] from ho)
    subst this; rfl
theorem clipN_ct (xs : List Int) (h : xs.length ≤ 1000) : Ct Tryz.prog 123 [.v (NRef.ref 2)] (obs [(2, .arr xs)]) (fun r h => r = .v (SRef.mk 2 0 xs.length) ∧ h = obs [(2, .arr xs)]) := by
  have hsl := sl87
  refine Ct.intro Tryz.func123 rfl rfl ?_
  refine aS (aR ?_)
  refine oC (oA rfl (Conv.of rfl) rfl) ?_
  refine oN ?_
  refine aS (aR ?_)
  refine oC (oM rfl (Conv.of rfl) rfl) ?_
  refine oC (oM rfl (Conv.of rfl) rfl) ?_
  refine oC (oEA sl87 rfl rfl rfl) ?_
  refine oC (oM rfl (Conv.of rfl) rfl) ?_
  refine oC (oEA sl87 rfl rfl rfl) ?_
  refine oC (op_slAhm hsl rfl rfl rfl rfl rfl rfl) ?_
  refine oC (oA rfl (Conv.of rfl) rfl) ?_
  refine oN ?_
  refine aT ?_
  repeat first | refine rS ?_ | refine rB ?_
  refine finO1 [(2, .arr xs)] (.v rfl (Conv.of rfl)) (fun o ho => ?_) (olk rfl bA oln) (hK rfl) rfl
  have : o = 2 := by simpa using (show o ∈ [2] from ho)
  subst this; rfl
set_option maxHeartbeats 1000000 in
theorem pay_ct (b : List Int) (p : Pay) (hb : Bk b) (hp : payOk p = true) : CtO Tryz.prog 88 [.v (SRef.mk 2 0 3), .v p] [(2, .arr b)] (.tup []) [(2, .arr (payF b p))] := by
  have hsl := sl87
  have hbd := pay_bd hp
  have hlen := hb.len
  obtain ⟨v, hv, hvd, hv0, hv27⟩ := hb.at (k := (p.frm - 1).toNat) (by omega)
  have hvl : (p.frm - 1).toNat < b.length := by omega
  obtain ⟨u, hu, hud, hu0, hu27⟩ := hb.at (k := (p.to - 1).toNat) (by omega)
  have hne : (p.frm - 1).toNat ≠ (p.to - 1).toNat := by omega
  have hu' : (b.set (p.frm - 1).toNat (v - p.sum))[(p.to - 1).toNat]? = some u := by rw [List.getElem?_set_ne hne]; exact hu
  have hud' : (b.set (p.frm - 1).toNat (v - p.sum)).getD (p.to - 1).toNat 0 = u := by rw [List.getD_eq_getElem?_getD, hu']; rfl
  refine Ct.intro Tryz.func88 rfl rfl ?_
  refine aS (aR ?_)
  refine oC (op_box (o := 3) ty61 rfl (Conv.of rfl) rfl rfl) ?_
  refine oN ?_
  refine aS (dS ?_)
  refine dC (oM rfl (Conv.of rfl) rfl) ?_
  refine dC (oF f61_0 rfl rfl) ?_
  refine dC (oD ty3 rfl rfl rfl) ?_
  refine dC (op_sub rfl rfl rfl (by omega)) ?_
  refine dC (op_ixS hsl rfl rfl rfl (by omega)) ?_
  refine dC (op_lde ty3 rfl rfl hv rfl) ?_
  refine dC (oF f61_2 rfl rfl) ?_
  refine dC (oD ty3 rfl rfl rfl) ?_
  refine dC (op_geq rfl rfl rfl) ?_
  refine dr_nil mixed rfl ?_
  refine aC rfl (fun h => ?_) (fun h => ?_)
  · have hle : p.sum ≤ v := by simpa using h
    have hpay : payF b p = (b.set (p.frm - 1).toNat (v - p.sum)).set (p.to - 1).toNat (u + p.sum) := by
      unfold payF; rw [hvd, if_pos hle, hud']
    refine aS (dS ?_)
    refine dC (oM rfl (Conv.of rfl) rfl) ?_
    refine dC (oF f61_0 rfl rfl) ?_
    refine dC (oD ty3 rfl rfl rfl) ?_
    refine dC (op_sub rfl rfl rfl (by omega)) ?_
    refine dC (op_ixS hsl rfl rfl rfl (by omega)) ?_
    refine dC (op_lde ty3 rfl rfl hv rfl) ?_
    refine dC (oF f61_2 rfl rfl) ?_
    refine dC (oD ty3 rfl rfl rfl) ?_
    refine dC (op_sub rfl rfl rfl (by omega)) ?_
    refine dC (op_ixS hsl rfl rfl rfl (by omega)) ?_
    refine dC (op_ste ty3 rfl rfl (Conv.of rfl) rfl hv) ?_
    refine dr_nil mixed rfl ?_
    refine dS ?_
    refine dC (oM rfl (Conv.of rfl) rfl) ?_
    refine dC (oF f61_1 rfl rfl) ?_
    refine dC (oD ty3 rfl rfl rfl) ?_
    refine dC (op_sub rfl rfl rfl (by omega)) ?_
    refine dC (op_ixS hsl rfl rfl rfl (by omega)) ?_
    refine dC (op_lde ty3 rfl rfl hu' rfl) ?_
    refine dC (oF f61_2 rfl rfl) ?_
    refine dC (oD ty3 rfl rfl rfl) ?_
    refine dC (oP rfl rfl rfl (by omega)) ?_
    refine dC (op_ixS hsl rfl rfl rfl (by omega)) ?_
    refine dC (op_ste ty3 rfl rfl (Conv.of rfl) rfl hu') ?_
    refine dr_nil mixed rfl ?_
    rw [hpay]
    refine finO [(2, .arr _)] .nil rfl (fun o ho => by cases ho) ?_ (hK rfl) rfl
    exact (olk rfl bA oln)
  · have hle : ¬ p.sum ≤ v := by simpa using h
    have hpay : payF b p = b := by unfold payF; rw [hvd, if_neg hle]
    rw [hpay]
    refine aW ?_
    refine finO [(2, .arr b)] .nil rfl (fun o ho => by cases ho) ?_ (hK rfl) rfl
    exact (olk rfl bA oln)
theorem bookNew_ct : Ct Tryz.prog 87 [] noObj (fun r h => r = .v (SRef.mk 2 0 3) ∧ h = obs [(2, .arr ([9, 9, 9] : List Int))]) := by
  have hclip : CtO Tryz.prog 123 [.v (NRef.ref 2)] [(2, .arr ([9, 9, 9] : List Int))] (.v (SRef.mk 2 0 3)) [(2, .arr ([9, 9, 9] : List Int))] := clipN_ct [9, 9, 9] (by decide)
  refine Ct.intro Tryz.func87 rfl rfl ?_
  refine aS (aR ?_)
  refine oC (oA rfl (Conv.of rfl) rfl) ?_
  refine oN ?_
  refine aS (aR ?_)
  refine oC (op_bsl sl87 z3 (.cons rfl (Conv.of rfl) (.nil _)) rfl (by decide) rfl) ?_
  refine awpOps_callO [] rfl fb124 (.cons rfl (Conv.ol) (.cons rfl (Conv.of rfl) (.nil _))) repeat_ct ols0 k0 (argOk' rfl rfl (argOk' rfl rfl argO0)) rfl ?_
  rintro r h' ⟨rfl, rfl⟩
  refine ⟨[(2, .arr ([9, 9, 9] : List Int))], rfl, (fun o ho => by cases ho), fun o ho _ => ?_, kK bA k0, fun o ho => ?_, ?_⟩
  · have : o = 2 := by simpa [keys, lk0] using ho
    subst this; rfl
  · have : o = 2 := by simpa using (show o ∈ [2] from ho)
    subst this; rfl
  refine oC (oLO fb123 (.cons rfl (Conv.of rfl) (.nil _)) (hclip) (olsk rfl ols0) (kK (by exact bA) k0) (kK (by exact bA) k0) rfl (argOb rfl rfl rfl argO0) (fun o ho => by have : o = 2 := (by simpa using (show o ∈ [2] from ho)); subst this; rfl) rfl) ?_
  refine oC (oA rfl (Conv.of rfl) rfl) ?_
  refine oN ?_
  refine aT ?_
  repeat first | refine rS ?_ | refine rB ?_
  refine ⟨_, _, res1 (ol := [(2, .arr ([9, 9, 9] : List Int))]) (.v rfl (Conv.of rfl)) (fun o ho => ?_) (olk rfl bA oln) noS, rfl, rfl⟩
  have : o = 2 := by simpa using (show o ∈ [2] from ho)
  subst this; rfl
theorem bookOfA_ct (c : List Itm) (h : chainOk c = true) : Ct Tryz.prog 53 [.v c] noObj (fun r h => r = .v (SRef.mk 2 0 3) ∧ h = obs [(2, .arr (bookF c))]) := by
  have hcp := chainOk_pay h
  refine Ct.intro Tryz.func53 rfl rfl ?_
  refine awp_bigL 0 rfl (fun hB => ?_)
  refine aS (aR ?_)
  refine oC (oA rfl (Conv.of rfl) rfl) ?_
  refine oN ?_
  refine aS (aS (aR ?_))
  refine oC (oM rfl (Conv.of rfl) rfl) ?_
  refine oC (oL fb86 (.cons rfl (Conv.of rfl) (.nil _)) (chainOk_ct _) (aK rfl rfl aK0) rfl rfl) ?_
  refine oC (op_not rfl rfl) ?_
  refine oN ?_
  refine aC rfl (fun h2 => absurd (not_t h2) (by rw [h]; decide)) (fun h2 => ?_)
  refine aW ?_
  refine aS (aR ?_)
  refine awpOps_callO [] rfl fb87 (.nil _) bookNew_ct ols0 k0 argO0 rfl ?_
  rintro r h' ⟨rfl, rfl⟩
  refine ⟨[(2, .arr ([9, 9, 9] : List Int))], rfl, (fun o ho => by cases ho), fun o ho _ => ?_, kK bA k0, fun o ho => ?_, ?_⟩
  · have : o = 2 := by simpa [keys, lk0] using ho
    subst this; rfl
  · have : o = 2 := by simpa using (show o ∈ [2] from ho)
    subst this; rfl
  refine oC (oA rfl (Conv.of rfl) rfl) ?_
  refine oN ?_
  refine aS (aS (aR ?_))
  refine oC (oM rfl (Conv.of rfl) rfl) ?_
  refine oC (oE sl72 rfl rfl) ?_
  refine oC (oM rfl (Conv.of rfl) rfl) ?_
  refine oN ?_
  refine aB ?_
  refine awp_loop' (fun n_ s => ∃ (k : Nat), ∃ (hn : n_ + k = c.length), s = mkSt 22 [(3, .v (SRef.mk 2 0 3)), (10, .v c), (11, .v (c.length : Int)), (12, .v (k : Int))] [(2, .arr ((c.take k).foldl (fun (b : List Int) (x : Itm) => payF b x.pay) [9, 9, 9]))]) (c.length) ⟨0, by omega, rfl⟩ (Le.mk rfl (tlb rfl rfl rfl (tle rfl (rfl) rfl (tle rfl (rfl) rfl (tle rfl (rfl) rfl tln)))) (olk (by rfl) (by exact bA) oln) noS) ?_
  rintro n_ s ⟨k, hn, rfl⟩
  have hbk := fold_bk (c.take k) Bk.new (fun x hx => hcp x (List.mem_of_mem_take hx))
  refine aS (aR ?_)
  refine oC (oLt rfl rfl rfl) ?_
  refine oN ?_
  refine aS (aC rfl (fun h3 => ?_) (fun h3 => ?_))
  · have hlt : k < c.length := by simpa using h3
    have hx : c[k]? = some c[k] := List.getElem?_eq_getElem hlt
    have hpk := hcp _ (List.getElem_mem hlt)
    refine aW ?_
    refine aS (aB ?_)
    refine aS (aR ?_)
    refine oC (op_ix sl72 rfl rfl rfl (by omega) hx) ?_
    refine oC (oDR ty74 rfl rfl) ?_
    refine oC (oX (o := 6) z74 rfl rfl) ?_
    refine oC (op_st ty74 rfl rfl (Conv.of rfl) rfl) ?_
    refine oN ?_
    refine aR ?_
    refine oC (oM rfl (Conv.of rfl) rfl) ?_
    refine oC (oF f74_1 rfl rfl) ?_
    refine oC (oD ty61 rfl rfl rfl) ?_
    refine oC (oLO fb88 (.cons rfl (Conv.of rfl) (.cons rfl (Conv.of rfl) (.nil _))) (pay_ct _ c[k].pay hbk hpk) (olsk rfl ols0) (kK (by exact bA) k0) (kK (by exact bA) k0) rfl (argOb rfl rfl rfl (argOk' rfl rfl argO0)) (fun o ho => by cases ho) rfl) ?_
    refine oN ?_
    refine aR ?_
    refine oC (oP rfl rfl rfl (by omega)) ?_
    refine oC (oM rfl (Conv.of rfl) rfl) ?_
    refine oN ?_
    repeat first | refine nS ?_ | refine nB ?_
    exact ⟨n_ - 1, _, by omega, ⟨k + 1, by omega, rfl⟩, Le.mk rfl (tlb rfl rfl rfl (tle rfl (rfl) rfl (tle rfl (rfl) rfl (tle rfl (rfl) rfl tln)))) (olk (by (rw [foldl_at (fun (b : List Int) (x : Itm) => payF b x.pay) _ hx]; rfl)) (by exact bA) oln) noS⟩
  · refine aE ?_
    repeat refine ex_seq ?_
    refine eB ?_
    have hk : c.length ≤ k := by simpa using h3
    have he : (c.take k).foldl (fun (b : List Int) (x : Itm) => payF b x.pay) [9, 9, 9] = bookF c := by rw [take_end hk]; rfl
    rw [he]
    refine aS (aR ?_)
    refine oC (oM rfl (Conv.of rfl) rfl) ?_
    refine oC (oA rfl (Conv.of rfl) rfl) ?_
    refine oN ?_
    refine aT ?_
    repeat first | refine rS ?_ | refine rB ?_
    refine ⟨_, _, res1 (ol := [(2, .arr (bookF c))]) (.v rfl (Conv.of rfl)) (fun o ho => ?_) (olk rfl bA oln) noS, rfl, rfl⟩
    have : o = 2 := by simpa using (show o ∈ [2] from ho)
    subst this; rfl
theorem bookOf_ct (c : List Itm) (h : chainOk c = true) : CtP Tryz.prog 53 [.v c] (.v (bookF c)) := by
  have hb : Bk (bookF c) := fold_bk c Bk.new (chainOk_pay h)
  have hl := hb.len
  have k := bookOfA_ct c h
  rw [show (3 : Nat) = (bookF c).length by rw [hl]] at k
  exact Ct.frz k (frz_sref (by rw [hl]; decide))
end Go.Proofs.YtgfoeiieopnlaaaGreatDoor

/- The books of nodes. -/
set_option linter.unusedVariables false
set_option linter.unusedSimpArgs false
namespace Go.Proofs.YtgfoeiieopnlaaaGreatDoor
open Go Go.Wt
end Go.Proofs.YtgfoeiieopnlaaaGreatDoor

/- The reference's final chain. -/
set_option linter.unusedVariables false
set_option linter.unusedSimpArgs false
namespace Go.Wt
open Go
theorem finFrom_bd (c : List Itm) : ∀ n : Nat, 0 ≤ finFrom c n ∧ finFrom c n ≤ n
  | 0 => ⟨Int.le_refl _, Int.le_refl _⟩
  | n + 1 => by
    have := finFrom_bd c n
    simp only [finFrom]
    split <;> omega
theorem finLen_bd (c : List Itm) : 0 ≤ finLen c ∧ finLen c ≤ c.length := finFrom_bd c c.length
def finStepS (out c : List Itm) : List Itm := if decide ((out.length : Int) < finLen c) then c.take (finLen c).toNat else out
def finalS (l : List Vote) : List Itm := (allOfS l).foldl finStepS []
theorem finStep_eq (o c : List Itm) : finStepS (o.take (finLen o).toNat) c = (shownStep o c).take (finLen (shownStep o c)).toNat := by
  have h1 := finLen_bd o
  have hl : ((o.take (finLen o).toNat).length : Int) = finLen o := by
    rw [List.length_take, Nat.min_eq_left (by omega)]; omega
  unfold finStepS shownStep
  rw [hl]
  split <;> rfl
theorem finFold_eq : ∀ (r : List (List Itm)) (o : List Itm), r.foldl finStepS (o.take (finLen o).toNat) = (r.foldl shownStep o).take (finLen (r.foldl shownStep o)).toNat
  | [], _ => rfl
  | c :: r, o => by
    rw [List.foldl_cons, List.foldl_cons, finStep_eq]
    exact finFold_eq r _
theorem finalS_eq {l : List Vote} (h : votesOk l = true) : finalS l = finalOf l := by
  unfold finalS finalOf shownOf
  rw [allOfS_eq h]
  exact finFold_eq (allOf l) []
theorem allOfS_at {l : List Vote} {c : List Itm} (h : c ∈ allOfS l) : c = [] ∨ ∃ v ∈ l, v.chain = c := by
  rcases allStepS_mem l l [[]] _ h with e | ⟨v, h1, h2⟩
  · simp at e; exact .inl e
  · exact .inr ⟨v, h1, h2⟩
def nodeBookR (n : Nod) : List Int := if nodeOk n then bookF (finalOf n.seen) else []
theorem OpOk.conv {P : Program} {S : Nat → Prop} {ops : Array Oper} {st : St} {o0 : Oper} {rt ro : List Nat} {d : Nat} {av av' : AV} {wo : List (Nat × Obj)} (h : OpOk P S ops o0 rt ro [(d, some av)] wo st) (hc : Conv av av') : OpOk P S ops o0 rt ro [(d, some av')] wo st := by
  intro st1 hag G w a hr K Q hK
  refine h st1 hag G w a hr K Q fun a' w' G' r1 r2 => hK a' w' G' ⟨r1.defers, r1.size, fun q => ?_, fun k => r1.objs k⟩ r2
  have hq := r1.tmps q
  show RelT _ _ _ (orr (lk [(d, some av')] q) (st1.tm q)) _
  have hq' : RelT G' w' (.tmp q, []) (orr (lk [(d, some av)] q) (st1.tm q)) (a'.tmps.getD q undef) := hq
  simp only [lk] at hq' ⊢
  by_cases e : q = d
  · rw [if_pos e] at hq' ⊢
    exact hc hq'
  · rw [if_neg e] at hq' ⊢
    exact hq'
end Go.Wt

/- The reference: what all have by a node. -/
set_option linter.unusedVariables false
set_option linter.unusedSimpArgs false
namespace Go.Proofs.YtgfoeiieopnlaaaGreatDoor
open Go Go.Wt
theorem l11FinalIn_ct (c : List Itm) (hc : ∀ x ∈ c, 0 ≤ x.epoch ∧ x.epoch ≤ 1000000) : CtP Tryz.prog 102 [.v c] (.v (finLen c)) := by
  have hep : ∀ (i : Nat) (hi : i < c.length), 0 ≤ c[i].epoch ∧ c[i].epoch ≤ 1000000 := fun i hi => hc _ (List.getElem_mem hi)
  refine Ct.intro Tryz.func102 rfl rfl ?_
  refine awp_bigL 0 rfl (fun hB => ?_)
  all_goals refine aS (aR ?_)
  all_goals refine oC (oA rfl (Conv.of rfl) rfl) ?_
  all_goals refine oN ?_
  all_goals refine aS (aS (aR ?_))
  all_goals refine oC (oM rfl (Conv.of rfl) rfl) ?_
  all_goals refine oC (oE sl72 rfl rfl) ?_
  all_goals refine oC (op_sub rfl rfl rfl (by omega)) ?_
  all_goals refine oC (oA rfl (Conv.of rfl) rfl) ?_
  all_goals refine oN ?_
  refine aB ?_
  refine awp_loop' (fun n_ s => ∃ (k : Nat), ∃ (hn : n_ = k), ∃ (hk : k ≤ c.length), ∃ (hall : finLen c = finFrom c k), s = mkSt 41 [(0, .v c), (3, .v ((k : Int) - 1))] []) (c.length) ⟨c.length, rfl, Nat.le_refl _, rfl, rfl⟩ (Le.mk rfl (tle rfl (rfl) rfl (tle rfl (by rfl) rfl tln)) oln noS) ?_
  rintro n_ s ⟨k, hn, hk, hall, rfl⟩
  all_goals refine aS (aS (aR ?_))
  all_goals refine oC (oM rfl (Conv.of rfl) rfl) ?_
  all_goals refine oC (op_geq rfl rfl rfl) ?_
  all_goals refine oN ?_
  refine aC rfl (fun h => ?_) (fun h => ?_)
  · obtain ⟨m, rfl⟩ : ∃ m, k = m + 3 := ⟨k - 3, by simp at h; omega⟩
    have h1 : (((m + 3 : Nat) : Int) - 1 - 2).toNat = m := by omega
    have h2 : (((m + 3 : Nat) : Int) - 1 - 1).toNat = m + 1 := by omega
    have h3 : (((m + 3 : Nat) : Int) - 1).toNat = m + 2 := by omega
    have hx : c[(((m + 3 : Nat) : Int) - 1 - 2).toNat]? = some (c[m]'(by omega)) := by rw [h1]; exact List.getElem?_eq_getElem _
    have hy : c[(((m + 3 : Nat) : Int) - 1 - 1).toNat]? = some (c[m + 1]'(by omega)) := by rw [h2]; exact List.getElem?_eq_getElem _
    have hz : c[(((m + 3 : Nat) : Int) - 1).toNat]? = some (c[m + 2]'(by omega)) := by rw [h3]; exact List.getElem?_eq_getElem _
    have e1 := hep m (by omega)
    have e2 := hep (m + 1) (by omega)
    have e3 := hep (m + 2) (by omega)
    refine aW ?_
    refine aS (aB ?_)
    refine aST (s' := mkSt 41 [(0, .v c), (3, .v (((m + 3 : Nat) : Int) - 1)), (39, .v (decide ((c[m]'(by omega)).epoch + 1 = (c[m + 1]'(by omega)).epoch) && decide ((c[m + 1]'(by omega)).epoch + 1 = (c[m + 2]'(by omega)).epoch)))] []) ?_ ?_
    · all_goals refine dS ?_
      all_goals refine dC (oM rfl (Conv.of rfl) rfl) ?_
      all_goals refine dC (oM rfl (Conv.of rfl) rfl) ?_
      all_goals refine dC (op_sub rfl rfl rfl (by omega)) ?_
      all_goals refine dC (op_ix sl72 rfl rfl rfl (by omega) hx) ?_
      all_goals refine dC (oFR f74_0 rfl rfl) ?_
      all_goals refine dC (oDR ty3 rfl rfl) ?_
      all_goals refine dC (oP rfl rfl rfl (by omega)) ?_
      all_goals refine dC (oM rfl (Conv.of rfl) rfl) ?_
      all_goals refine dC (oM rfl (Conv.of rfl) rfl) ?_
      all_goals refine dC (op_sub rfl rfl rfl (by omega)) ?_
      all_goals refine dC (op_ix sl72 rfl rfl rfl (by omega) hy) ?_
      all_goals refine dC (oFR f74_0 rfl rfl) ?_
      all_goals refine dC (oDR ty3 rfl rfl) ?_
      all_goals refine dC (op_eql rfl rfl rfl) ?_
      all_goals refine dC (oM rfl (Conv.of rfl) rfl) ?_
      all_goals refine dr_split (t := 25) rfl (fun h => ?_) (fun h => ?_)
      all_goals first | refine dC (gF rfl rfl rfl rfl rfl) ?_ | refine dC (gN rfl rfl rfl (oM rfl (Conv.of rfl) rfl)) ?_
      all_goals first | refine dC (gF rfl rfl rfl rfl rfl) ?_ | refine dC (gN rfl rfl rfl (oM rfl (Conv.of rfl) rfl)) ?_
      all_goals first | refine dC (gF rfl rfl rfl rfl rfl) ?_ | refine dC (gN rfl rfl rfl (op_sub rfl rfl rfl (by omega))) ?_
      all_goals first | refine dC (gF rfl rfl rfl rfl rfl) ?_ | refine dC (gN rfl rfl rfl (op_ix sl72 rfl rfl rfl (by omega) hy)) ?_
      all_goals first | refine dC (gF rfl rfl rfl rfl rfl) ?_ | refine dC (gN rfl rfl rfl (oFR f74_0 rfl rfl)) ?_
      all_goals first | refine dC (gF rfl rfl rfl rfl rfl) ?_ | refine dC (gN rfl rfl rfl (oDR ty3 rfl rfl)) ?_
      all_goals first | refine dC (gF rfl rfl rfl rfl rfl) ?_ | refine dC (gN rfl rfl rfl (oP rfl rfl rfl (by omega))) ?_
      all_goals first | refine dC (gF rfl rfl rfl rfl rfl) ?_ | refine dC (gN rfl rfl rfl (oM rfl (Conv.of rfl) rfl)) ?_
      all_goals first | refine dC (gF rfl rfl rfl rfl rfl) ?_ | refine dC (gN rfl rfl rfl (oM rfl (Conv.of rfl) rfl)) ?_
      all_goals first | refine dC (gF rfl rfl rfl rfl rfl) ?_ | refine dC (gN rfl rfl rfl (op_ix sl72 rfl rfl rfl (by omega) hz)) ?_
      all_goals first | refine dC (gF rfl rfl rfl rfl rfl) ?_ | refine dC (gN rfl rfl rfl (oFR f74_0 rfl rfl)) ?_
      all_goals first | refine dC (gF rfl rfl rfl rfl rfl) ?_ | refine dC (gN rfl rfl rfl (oDR ty3 rfl rfl)) ?_
      all_goals first | refine dC (gF rfl rfl rfl rfl rfl) ?_ | refine dC (gN rfl rfl rfl (op_eql rfl rfl rfl)) ?_
      all_goals refine dC (oQ rfl rfl rfl rfl) ?_
      all_goals refine dr_nil mixed rfl ?_
      all_goals exact Le.mk rfl (tle rfl (rfl) rfl (tle rfl (rfl) rfl (tle rfl (by (clear hall; simp_all; try (rw [Bool.eq_iff_iff]; simp))) rfl tln))) oln noS
    have hstep : finFrom c (m + 3) = if (decide ((c[m]'(by omega)).epoch + 1 = (c[m + 1]'(by omega)).epoch) && decide ((c[m + 1]'(by omega)).epoch + 1 = (c[m + 2]'(by omega)).epoch)) then ((m + 2 : Nat) : Int) else finFrom c (m + 2) := by
      have g1 : c[m]? = some (c[m]'(by omega)) := List.getElem?_eq_getElem _
      have g2 : c[m + 1]? = some (c[m + 1]'(by omega)) := List.getElem?_eq_getElem _
      have g3 : c[m + 2]? = some (c[m + 2]'(by omega)) := List.getElem?_eq_getElem _
      show (if _ then _ else _) = _
      simp only [show m + 2 - 2 = m by omega, show m + 2 - 1 = m + 1 by omega, g1, g2, g3, show (2 < m + 2 + 1) = True by simp, decide_true, Bool.true_and]
    refine aC rfl (fun hb => ?_) (fun hb => ?_)
    · all_goals refine aS (aR ?_)
      all_goals refine oC (oM rfl (Conv.of rfl) rfl) ?_
      all_goals refine oC (oA rfl (Conv.of rfl) rfl) ?_
      all_goals refine oN ?_
      refine aT ?_
      repeat first | refine rS ?_ | refine rB ?_
      refine finP (.v rfl (Conv.of rfl)) rfl ?_
      show AV.v _ = _
      rw [hall, hstep, hb, if_pos rfl, show ((m + 3 : Nat) : Int) - 1 = ((m + 2 : Nat) : Int) by omega]
    · refine aW ?_
      all_goals refine aR ?_
      all_goals refine oC (oM rfl (Conv.of rfl) rfl) ?_
      all_goals refine oC (op_sub rfl rfl rfl (by omega)) ?_
      all_goals refine oC (oA rfl (Conv.of rfl) rfl) ?_
      all_goals refine oN ?_
      repeat first | refine nS ?_ | refine nB ?_
      exact ⟨m + 2, _, by omega, ⟨m + 2, rfl, by omega, by rw [hall, hstep, hb]; rfl, rfl⟩, Le.mk rfl (tle rfl (rfl) rfl (tle rfl (by (show AV.v _ = AV.v _; congr 1; omega)) rfl tln)) oln noS⟩
  · refine aE ?_
    repeat refine ex_seq ?_
    refine eB ?_
    have hk2 : k ≤ 2 := by simp at h; omega
    all_goals refine aS (aR ?_)
    all_goals refine oC (oA rfl (Conv.of rfl) rfl) ?_
    all_goals refine oN ?_
    refine aT ?_
    repeat first | refine rS ?_ | refine rB ?_
    refine finP (.v rfl (Conv.of rfl)) rfl ?_
    show AV.v (0 : Int) = _
    rw [hall]
    match k, hk2 with
    | 0, _ => rfl
    | 1, _ => rfl
    | 2, _ => rfl
theorem l11Final_ct (l : List Vote) (hg : Gd l) : CtP Tryz.prog 68 [.v l] (.v (finalS l)) := by
  have hall : (allOfS l).length ≤ 100001 := by
    have h1 := allStepS_len l l [[]]
    have h2 := hg.l
    simp at h1; unfold allOfS; omega
  refine Ct.intro Tryz.func68 rfl rfl ?_
  refine aS (aR ?_)
  refine oC (oA rfl (Conv.of rfl) rfl) ?_
  refine oN ?_
  refine aS (aR ?_)
  refine oC (oM rfl (Conv.of rfl) rfl) ?_
  refine oC (oL fb101 (.cons rfl (Conv.of rfl) (.nil _)) (l11All_ct l hg.l hg.v) (aK rfl rfl aK0) rfl rfl) ?_
  refine oC (oA rfl Conv.ol rfl) ?_
  refine oN ?_
  refine aS (aR ?_)
  refine oC (op_bsl sl72 z74 (.nil _) rfl (by decide) rfl) ?_
  refine oC (oA rfl Conv.ol rfl) ?_
  refine oN ?_
  refine aS (aS (aR ?_))
  refine oC (oA rfl (Conv.of rfl) rfl) ?_
  refine oN ?_
  refine aB ?_
  refine awp_loop' (fun n_ s => ∃ (k : Nat), ∃ (hn : n_ + k = (allOfS l).length), s = mkSt 33 [(3, .v (allOfS l)), (4, .v (((allOfS l).take k).foldl finStepS [])), (5, .v (k : Int))] []) ((allOfS l).length) ⟨0, by omega, rfl⟩ (Le.mk rfl (tle rfl (rfl) rfl (tle rfl (by rfl) rfl (tle rfl (rfl) rfl tln))) oln noS) ?_
  rintro n_ s ⟨k, hn, rfl⟩
  refine aS (aS (aR ?_))
  refine oC (oM rfl (Conv.of rfl) rfl) ?_
  refine oC (oM rfl (Conv.of rfl) rfl) ?_
  refine oC (oE sl129 rfl rfl) ?_
  refine oC (oLt rfl rfl rfl) ?_
  refine oN ?_
  refine aC rfl (fun h => ?_) (fun h => ?_)
  · have hlt : k < (allOfS l).length := by simpa using h
    have hx : (allOfS l)[k]? = some (allOfS l)[k] := List.getElem?_eq_getElem hlt
    have hm := List.getElem_mem hlt
    have hce : ∀ x ∈ (allOfS l)[k], 0 ≤ x.epoch ∧ x.epoch ≤ 1000000 := by
      rcases allOfS_at hm with e | ⟨v, h1, h2⟩
      · rw [e]; intro x hx; cases hx
      · rw [← h2]; exact hg.e v h1
    have hcl : ((allOfS l)[k]).length ≤ 1000000 := by
      rcases allOfS_at hm with e | ⟨v, h1, h2⟩
      · rw [e]; simp
      · rw [← h2]; exact hg.v v h1
    have hfb := finLen_bd (allOfS l)[k]
    refine aW ?_
    refine aS (aB ?_)
    refine aS (aR ?_)
    refine oC (oM rfl (Conv.of rfl) rfl) ?_
    refine oC (oM rfl (Conv.of rfl) rfl) ?_
    refine oC (op_ix sl129 rfl rfl rfl (by omega) hx) ?_
    refine oC (oDR ty72 rfl rfl) ?_
    refine oC (oL fb102 (.cons rfl (Conv.of rfl) (.nil _)) (l11FinalIn_ct _ hce) (aK rfl rfl aK0) rfl rfl) ?_
    refine oC (oA rfl (Conv.of rfl) rfl) ?_
    refine oN ?_
    refine aS (aR ?_)
    refine oC (oM rfl (Conv.of rfl) rfl) ?_
    refine oC (oM rfl (Conv.of rfl) rfl) ?_
    refine oC (oE sl72 rfl rfl) ?_
    refine oC (op_gtr rfl rfl rfl) ?_
    refine oN ?_
    refine aC rfl (fun hb => ?_) (fun hb => ?_)
    · have hb'' : decide (((((allOfS l).take k).foldl finStepS []).length : Int) < finLen (allOfS l)[k]) = true := by simp at hb ⊢; omega
      refine aR ?_
      refine oC (oM rfl (Conv.of rfl) rfl) ?_
      refine oC (oM rfl (Conv.of rfl) rfl) ?_
      refine oC (op_ix sl129 rfl rfl rfl (by omega) hx) ?_
      refine oC (oDR ty72 rfl rfl) ?_
      refine oC (oM rfl (Conv.of rfl) rfl) ?_
      refine oC (op_slh sl72 rfl rfl rfl (by omega)) ?_
      refine oC (oL fb103 (.cons rfl (Conv.of rfl) (.nil _)) (l1Copy_ct _ (by rw [List.length_take]; omega)) (aK rfl rfl aK0) rfl rfl) ?_
      refine oC (oA rfl Conv.ol rfl) ?_
      refine oN ?_
      refine aR ?_
      refine oC (oM rfl (Conv.of rfl) rfl) ?_
      refine oC (oP rfl rfl rfl (by omega)) ?_
      refine oC (oA rfl (Conv.of rfl) rfl) ?_
      refine oN ?_
      repeat first | refine nS ?_ | refine nB ?_
      exact ⟨n_ - 1, _, by omega, ⟨k + 1, by omega, rfl⟩, Le.mk rfl (tle rfl (rfl) rfl (tle rfl (by (first | rfl | rw [foldl_at _ _ hx]; simp only [finStepS, hb'']; try rfl)) rfl (tle rfl (rfl) rfl tln))) oln noS⟩
    · have hb'' : decide (((((allOfS l).take k).foldl finStepS []).length : Int) < finLen (allOfS l)[k]) = false := by simp at hb ⊢; omega
      refine aW ?_
      refine aR ?_
      refine oC (oM rfl (Conv.of rfl) rfl) ?_
      refine oC (oP rfl rfl rfl (by omega)) ?_
      refine oC (oA rfl (Conv.of rfl) rfl) ?_
      refine oN ?_
      repeat first | refine nS ?_ | refine nB ?_
      exact ⟨n_ - 1, _, by omega, ⟨k + 1, by omega, rfl⟩, Le.mk rfl (tle rfl (rfl) rfl (tle rfl (by (first | rfl | rw [foldl_at _ _ hx]; simp only [finStepS, hb'']; try rfl)) rfl (tle rfl (rfl) rfl tln))) oln noS⟩
  · refine aE ?_
    repeat refine ex_seq ?_
    refine eB ?_
    have hk : (allOfS l).length ≤ k := by simpa using h
    refine aS (aR ?_)
    refine oC (oM rfl (Conv.of rfl) rfl) ?_
    refine oC (oA rfl (Conv.of rfl) rfl) ?_
    refine oN ?_
    refine aT ?_
    repeat first | refine rS ?_ | refine rB ?_
    refine finP (.v rfl (Conv.of rfl)) rfl ?_
    simp only [take_end hk]; rfl
theorem sBookNew_ct : CtP Tryz.prog 134 [] (.v ([9, 9, 9] : List Int)) := by
  refine Ct.intro Tryz.func134 rfl rfl ?_
  refine aS (aR ?_)
  refine oC (oA rfl (Conv.of rfl) rfl) ?_
  refine oN ?_
  refine aS (aR ?_)
  refine oC (op_bsl sl87 z3 (.cons rfl (Conv.of rfl) (.cons rfl (Conv.of rfl) (.cons rfl (Conv.of rfl) (.nil _)))) rfl (by decide) rfl) ?_
  refine oC (oA rfl Conv.ol rfl) ?_
  refine oN ?_
  refine aT ?_
  repeat first | refine rS ?_ | refine rB ?_
  exact finP (.v rfl (Conv.of rfl)) rfl rfl
theorem l2Pay_ct (b : List Int) (p : Pay) (hb : Bk b) (hp : payOk p = true) : CtP Tryz.prog 135 [.v b, .v p] (.v (payF b p)) := by
  have hbd := pay_bd hp
  have hlen := hb.len
  obtain ⟨v, hv, hvd, hv0, hv27⟩ := hb.at (k := (p.frm - 1).toNat) (by omega)
  have hvl : (p.frm - 1).toNat < b.length := by omega
  obtain ⟨u, hu, hud, hu0, hu27⟩ := hb.at (k := (p.to - 1).toNat) (by omega)
  have hne : (p.frm - 1).toNat ≠ (p.to - 1).toNat := by omega
  have hu' : (b.set (p.frm - 1).toNat (v - p.sum))[(p.to - 1).toNat]? = some u := by rw [List.getElem?_set_ne hne]; exact hu
  have hud' : (b.set (p.frm - 1).toNat (v - p.sum)).getD (p.to - 1).toNat 0 = u := by rw [List.getD_eq_getElem?_getD, hu']; rfl
  refine Ct.intro Tryz.func135 rfl rfl ?_
  refine aS (aR ?_)
  refine oC (op_box (o := 5) ty61 rfl (Conv.of rfl) rfl rfl) ?_
  refine oC (oA rfl (Conv.of rfl) rfl) ?_
  refine oN ?_
  have hpos : 0 < b.length := by omega
  refine aS (aR ?_)
  refine oC (OpOk.conv (op_bsa (o := 6) sl87 z3 (.nil _) rfl (by decide) rfl rfl) Conv.nr) ?_
  refine oC (oM rfl (Conv.of rfl) rfl) ?_
  refine oC (op_apA (o' := 7) sl87 z3 ul87 rfl rfl rfl rfl (by exact hpos) (by (show _ ≤ _; simp only [List.length_nil]; omega)) (by (show _ ≤ _; simp only [List.length_nil]; omega)) rfl) ?_
  refine oC (oA rfl (Conv.of rfl) rfl) ?_
  refine oN ?_
  have hl0 : ([] ++ b : List Int) = b := rfl
  rw [hl0]
  refine aS (aS (dS ?_))
  refine dC (oM rfl (Conv.of rfl) rfl) ?_
  refine dC (oF f61_0 rfl rfl) ?_
  refine dC (oD ty3 rfl rfl rfl) ?_
  refine dC (op_sub rfl rfl rfl (by omega)) ?_
  refine dC (op_ixA sl87 rfl rfl rfl rfl ⟨by omega, by omega⟩) ?_
  refine dC (op_lde ty3 rfl rfl hv rfl) ?_
  refine dC (oF f61_2 rfl rfl) ?_
  refine dC (oD ty3 rfl rfl rfl) ?_
  refine dC (op_geq rfl rfl rfl) ?_
  refine dr_nil mixed rfl ?_
  refine awp_to (s' := mkSt 47 [(5, .v (NRef.ref 7))] [(7, .arr (payF b p))]) ?_ ?_
  · refine aC rfl (fun h => ?_) (fun h => ?_)
    · have hle : p.sum ≤ v := by simpa using h
      have hpay : payF b p = (b.set (p.frm - 1).toNat (v - p.sum)).set (p.to - 1).toNat (u + p.sum) := by
        unfold payF; rw [hvd, if_pos hle, hud']
      refine aS (dS ?_)
      refine dC (oM rfl (Conv.of rfl) rfl) ?_
      refine dC (oF f61_0 rfl rfl) ?_
      refine dC (oD ty3 rfl rfl rfl) ?_
      refine dC (op_sub rfl rfl rfl (by omega)) ?_
      refine dC (oM rfl (Conv.of rfl) rfl) ?_
      refine dC (oF f61_0 rfl rfl) ?_
      refine dC (oD ty3 rfl rfl rfl) ?_
      refine dC (op_sub rfl rfl rfl (by omega)) ?_
      refine dC (op_ixA sl87 rfl rfl rfl rfl ⟨by omega, by omega⟩) ?_
      refine dC (op_lde ty3 rfl rfl hv rfl) ?_
      refine dC (oF f61_2 rfl rfl) ?_
      refine dC (oD ty3 rfl rfl rfl) ?_
      refine dC (op_sub rfl rfl rfl (by omega)) ?_
      refine dC (op_ixA sl87 rfl rfl rfl rfl ⟨by omega, by omega⟩) ?_
      refine dC (op_ste ty3 rfl rfl (Conv.of rfl) rfl (by assumption)) ?_
      refine dr_nil mixed rfl ?_
      refine dS ?_
      refine dC (oM rfl (Conv.of rfl) rfl) ?_
      refine dC (oF f61_1 rfl rfl) ?_
      refine dC (oD ty3 rfl rfl rfl) ?_
      refine dC (op_sub rfl rfl rfl (by omega)) ?_
      refine dC (oM rfl (Conv.of rfl) rfl) ?_
      refine dC (oF f61_1 rfl rfl) ?_
      refine dC (oD ty3 rfl rfl rfl) ?_
      refine dC (op_sub rfl rfl rfl (by omega)) ?_
      refine dC (op_ixA sl87 rfl rfl rfl rfl ⟨by omega, by simp; omega⟩) ?_
      refine dC (op_lde ty3 rfl rfl hu' rfl) ?_
      refine dC (oF f61_2 rfl rfl) ?_
      refine dC (oD ty3 rfl rfl rfl) ?_
      refine dC (oP rfl rfl rfl (by omega)) ?_
      refine dC (op_ixA sl87 rfl rfl rfl rfl ⟨by omega, by simp; omega⟩) ?_
      refine dC (op_ste ty3 rfl rfl (Conv.of rfl) rfl (by assumption)) ?_
      refine dr_nil mixed rfl ?_
      all_goals exact Le.mk rfl (tlb rfl rfl rfl tln) (olk (by (first | (rw [hpay]; rfl) | rw [hpay])) (by exact bA) oln) noS
    · have hle : ¬ p.sum ≤ v := by simpa using h
      have hpay : payF b p = b := by unfold payF; rw [hvd, if_neg hle]
      refine aW ?_
      all_goals exact Le.mk rfl (tlb rfl rfl rfl tln) (olk (by (first | (rw [hpay]; rfl) | rw [hpay])) (by exact bA) oln) noS
  have hbl := (hb.pay hp).len
  refine awp_le (Le.frz (t := 5) (o := 7) (by show _ ≤ 4611686018427387904; omega) noS rfl rfl obl0) ?_
  refine aS (aR ?_)
  refine oC (oM rfl (Conv.of rfl) rfl) ?_
  refine oC (oA rfl (Conv.of rfl) rfl) ?_
  refine oN ?_
  refine aT ?_
  repeat first | refine rS ?_ | refine rB ?_
  exact finP (.v rfl (Conv.of rfl)) rfl rfl
theorem sBookOf_ct (c : List Itm) (h : chainOk c = true) : CtP Tryz.prog 100 [.v c] (.v (bookF c)) := by
  have hcp := chainOk_pay h
  have hcl := chainOk_len h
  refine Ct.intro Tryz.func100 rfl rfl ?_
  refine aS (aR ?_)
  refine oC (oA rfl (Conv.of rfl) rfl) ?_
  refine oN ?_
  refine aS (aS (aR ?_))
  refine oC (oM rfl (Conv.of rfl) rfl) ?_
  refine oC (oL fb126 (.cons rfl (Conv.of rfl) (.nil _)) (sChainOk_ct _) (aK rfl rfl aK0) rfl rfl) ?_
  refine oC (op_not rfl rfl) ?_
  refine oN ?_
  refine aC rfl (fun h2 => absurd (not_t h2) (by rw [h]; decide)) (fun h2 => ?_)
  refine aW ?_
  refine aS (aR ?_)
  refine oC (oL fb134 (.nil _) (sBookNew_ct) aK0 rfl rfl) ?_
  refine oC (oA rfl (Conv.of rfl) rfl) ?_
  refine oN ?_
  refine aS (aS (aR ?_))
  refine oC (oA rfl (Conv.of rfl) rfl) ?_
  refine oN ?_
  refine aB ?_
  refine awp_loop' (fun n_ s => ∃ (k : Nat), ∃ (hn : n_ + k = c.length), s = mkSt 24 [(0, .v c), (3, .v ((c.take k).foldl (fun (b : List Int) (x : Itm) => payF b x.pay) [9, 9, 9])), (4, .v (k : Int))] []) (c.length) ⟨0, by omega, rfl⟩ (Le.mk rfl (tle rfl (rfl) rfl (tle rfl (by rfl) rfl (tle rfl (rfl) rfl tln))) oln noS) ?_
  rintro n_ s ⟨k, hn, rfl⟩
  have hbk := fold_bk (c.take k) Bk.new (fun x hx => hcp x (List.mem_of_mem_take hx))
  refine aS (aS (aR ?_))
  refine oC (oM rfl (Conv.of rfl) rfl) ?_
  refine oC (oM rfl (Conv.of rfl) rfl) ?_
  refine oC (oE sl72 rfl rfl) ?_
  refine oC (oLt rfl rfl rfl) ?_
  refine oN ?_
  refine aC rfl (fun h3 => ?_) (fun h3 => ?_)
  · have hlt : k < c.length := by simpa using h3
    have hx : c[k]? = some c[k] := List.getElem?_eq_getElem hlt
    have hpk := hcp _ (List.getElem_mem hlt)
    refine aW ?_
    refine aS (aB ?_)
    refine aR ?_
    refine oC (oM rfl (Conv.of rfl) rfl) ?_
    refine oC (oM rfl (Conv.of rfl) rfl) ?_
    refine oC (oM rfl (Conv.of rfl) rfl) ?_
    refine oC (op_ix sl72 rfl rfl rfl (by omega) hx) ?_
    refine oC (oFR f74_1 rfl rfl) ?_
    refine oC (oDR ty61 rfl rfl) ?_
    refine oC (oL fb135 (.cons rfl (Conv.of rfl) (.cons rfl (Conv.of rfl) (.nil _))) (l2Pay_ct _ _ hbk hpk) (aK rfl rfl (aK rfl rfl aK0)) rfl rfl) ?_
    refine oC (oA rfl (Conv.of rfl) rfl) ?_
    refine oN ?_
    refine aR ?_
    refine oC (oM rfl (Conv.of rfl) rfl) ?_
    refine oC (oP rfl rfl rfl (by omega)) ?_
    refine oC (oA rfl (Conv.of rfl) rfl) ?_
    refine oN ?_
    repeat first | refine nS ?_ | refine nB ?_
    exact ⟨n_ - 1, _, by omega, ⟨k + 1, by omega, rfl⟩, Le.mk rfl (tle rfl (rfl) rfl (tle rfl (by (first | rfl | rw [foldl_at (fun (b : List Int) (x : Itm) => payF b x.pay) _ hx])) rfl (tle rfl (rfl) rfl tln))) oln noS⟩
  · refine aE ?_
    repeat refine ex_seq ?_
    refine eB ?_
    have hk : c.length ≤ k := by simpa using h3
    refine aS (aR ?_)
    refine oC (oM rfl (Conv.of rfl) rfl) ?_
    refine oC (oA rfl (Conv.of rfl) rfl) ?_
    refine oN ?_
    refine aT ?_
    repeat first | refine rS ?_ | refine rB ?_
    refine finP (.v rfl (Conv.of rfl)) rfl ?_
    rw [take_end hk]; rfl
theorem sNodeBook_ct (n : Nod) : CtP Tryz.prog 67 [.v n] (.v (nodeBookR n)) := by
  unfold nodeBookR
  cases h : nodeOk n with
  | false =>
    refine Ct.intro Tryz.func67 rfl rfl ?_
    refine aS (aR ?_)
    refine oC (op_box (o := 0) ty66 rfl (Conv.of rfl) rfl rfl) ?_
    refine oC (oA rfl (Conv.of rfl) rfl) ?_
    refine oN ?_
    refine aS (aS (aR ?_))
    refine oC (oD ty66 rfl rfl rfl) ?_
    refine oC (oL fb99 (.cons rfl (Conv.of rfl) (.nil _)) (sNodeOk_ct _) (aK rfl rfl aK0) rfl rfl) ?_
    refine oC (op_not rfl rfl) ?_
    refine oN ?_
    refine aC rfl (fun h2 => ?_) (fun h2 => absurd (not_f h2) (by rw [h]; decide))
    refine aS (aR ?_)
    refine oC (op_bsl sl87 z3 (.nil _) rfl (by decide) rfl) ?_
    refine oC (oA rfl Conv.ol rfl) ?_
    refine oN ?_
    refine aT ?_
    repeat first | refine rS ?_ | refine rB ?_
    exact finP (.v rfl (Conv.of rfl)) rfl rfl
  | true =>
    have hs := nodeOk_seen h
    have hg := gdOf hs.1 (by omega)
    have hfc := final_chainOk (votesOk_mem hs.1)
    have hfs := finalS_eq hs.1
    have k1 := l11Final_ct n.seen hg
    rw [hfs] at k1
    refine Ct.intro Tryz.func67 rfl rfl ?_
    refine aS (aR ?_)
    refine oC (op_box (o := 0) ty66 rfl (Conv.of rfl) rfl rfl) ?_
    refine oC (oA rfl (Conv.of rfl) rfl) ?_
    refine oN ?_
    refine aS (aS (aR ?_))
    refine oC (oD ty66 rfl rfl rfl) ?_
    refine oC (oL fb99 (.cons rfl (Conv.of rfl) (.nil _)) (sNodeOk_ct _) (aK rfl rfl aK0) rfl rfl) ?_
    refine oC (op_not rfl rfl) ?_
    refine oN ?_
    refine aC rfl (fun h2 => absurd (not_t h2) (by rw [h]; decide)) (fun h2 => ?_)
    refine aW ?_
    refine aS (aR ?_)
    refine oC (oF f66_3 rfl rfl) ?_
    refine oC (oD ty36 rfl rfl rfl) ?_
    refine oC (oL fb68 (.cons rfl (Conv.of rfl) (.nil _)) (k1) (aK rfl rfl aK0) rfl rfl) ?_
    refine oC (oL fb100 (.cons rfl (Conv.of rfl) (.nil _)) (sBookOf_ct _ hfc) (aK rfl rfl aK0) rfl rfl) ?_
    refine oC (oA rfl (Conv.of rfl) rfl) ?_
    refine oN ?_
    refine aT ?_
    repeat first | refine rS ?_ | refine rB ?_
    exact finP (.v rfl (Conv.of rfl)) rfl rfl
end Go.Proofs.YtgfoeiieopnlaaaGreatDoor

/- Strings. -/
set_option linter.unusedVariables false
set_option linter.unusedSimpArgs false
namespace Go.Wt
open Go
/-- A string of these bytes. -/
abbrev bs (l : List UInt8) : ByteArray := ⟨l.toArray⟩
theorem bs_size (l : List UInt8) : (bs l).size = l.length := by
  show l.toArray.size = l.length
  simp
theorem bs_list (l : List UInt8) : (bs l).toList = l := ByteArray.toList_mk l
theorem bs_app (l m : List UInt8) : bs l ++ bs m = bs (l ++ m) := by
  apply ByteArray.ext
  show (bs l ++ bs m).data = (l ++ m).toArray
  rw [ByteArray.data_append]
  simp
theorem bs_extract (l : List UInt8) (a b : Nat) : (bs l).extract a b = bs ((l.drop a).take (b - a)) := by
  rw [Go.Lib.extract_eq]
theorem bs_get (l : List UInt8) (i : Nat) : (bs l)[i]? = l[i]? := by
  by_cases h : i < (bs l).size
  · rw [ByteArray.getElem?_lt' _ _ h, List.getElem?_eq_getElem (by rw [bs_size] at h; exact h)]
    rfl
  · rw [ByteArray.getElem?_ge' _ _ h, List.getElem?_eq_none (by rw [bs_size] at h; omega)]
section ops
variable {P : Program} {S : Nat → Prop} {ops : Array Oper} {st : St} {d : Nat} {T pos aft} {x y z : Operand}
theorem op_lens {t : TypeId} {l : List UInt8} (hu : P.underlying t = some .string) (hx : st.ev x = some (.v (bs l))) (hn : Nat.blt d st.n = true) :
    OpOk P S ops ⟨some d, .call { callee := .builtin .len, args := #[x], argTypes := #[t] }, T, pos, aft, none⟩ (opT x) [] [(d, some (.v (l.length : Int)))] [] st :=
  OpOk.value rfl rfl (by simpa using hn) fun st1 hag G w a hr => ⟨.int .i64 l.length, by
    have h1 := RelV.str (hr.at hag hx fun t ht => ht)
    simp [execOp, resolve, invoke, builtin, Builtin.len_, h1, run_underlying hu, goInt, bs_size], relInt _ _ _ _⟩
theorem op_adds {t t' : TypeId} {l m : List UInt8} (hx : st.ev x = some (.v (bs l))) (hy : st.ev y = some (.v (bs m))) (hn : Nat.blt d st.n = true) (hb : l.length + m.length ≤ 9223372036854775807) :
    OpOk P S ops ⟨some d, .binOp .add t x y t', T, pos, aft, none⟩ (opT x ++ opT y) [] [(d, some (.v (bs (l ++ m))))] [] st :=
  bin_value hn fun st1 hag G w a hr => by
    have e1 := RelV.str (hr.at hag hx fun t ht => by simp [ht])
    have e2 := RelV.str (hr.at hag hy fun t ht => by simp [ht])
    refine ⟨.string (bs (l ++ m)), ?_, ?_, relStr _ _ _ _⟩
    · rw [e1, e2, binOp_string_add, run_string_add_sum _ _ _ (by rw [bs_size, bs_size]; exact hb), bs_app]
    · rw [e1, e2]; rfl
theorem op_eqls {t t' : TypeId} {l m : List UInt8} (hx : st.ev x = some (.v (bs l))) (hy : st.ev y = some (.v (bs m))) (hn : Nat.blt d st.n = true) :
    OpOk P S ops ⟨some d, .binOp .eql t x y t', T, pos, aft, none⟩ (opT x ++ opT y) [] [(d, some (.v (decide (l = m))))] [] st :=
  bin_value hn fun st1 hag G w a hr => by
    have e1 := RelV.str (hr.at hag hx fun t ht => by simp [ht])
    have e2 := RelV.str (hr.at hag hy fun t ht => by simp [ht])
    refine ⟨.bool (decide (l = m)), ?_, ?_, relBool _ _ _ _⟩
    · rw [e1, e2, binOp_string_eql, bs_list, bs_list]
      show Result.ok (Value.bool (l == m)) w = _
      congr 2
      rw [Bool.eq_iff_iff]; simp
    · rw [e1, e2]; rfl
theorem op_neqs {t t' : TypeId} {l m : List UInt8} (hx : st.ev x = some (.v (bs l))) (hy : st.ev y = some (.v (bs m))) (hn : Nat.blt d st.n = true) :
    OpOk P S ops ⟨some d, .binOp .neq t x y t', T, pos, aft, none⟩ (opT x ++ opT y) [] [(d, some (.v (!decide (l = m))))] [] st :=
  bin_value hn fun st1 hag G w a hr => by
    have e1 := RelV.str (hr.at hag hx fun t ht => by simp [ht])
    have e2 := RelV.str (hr.at hag hy fun t ht => by simp [ht])
    refine ⟨.bool (!decide (l = m)), ?_, ?_, relBool _ _ _ _⟩
    · rw [e1, e2, binOp_string_neq, bs_list, bs_list]
      show Result.ok (Value.bool !(l == m)) w = _
      congr 3
      rw [Bool.eq_iff_iff]; simp
    · rw [e1, e2]; rfl
theorem op_idxs {t : TypeId} {l : List UInt8} {i : Int} {b : UInt8} (hu : P.underlying t = some .string) (hx : st.ev x = some (.v (bs l))) (hy : st.ev y = some (.v i)) (hn : Nat.blt d st.n = true) (h0 : 0 ≤ i) (hb : l[i.toNat]? = some b) :
    OpOk P S ops ⟨some d, .index t x y, T, pos, aft, none⟩ (opT x ++ opT y) [] [(d, some (.v b))] [] st :=
  OpOk.value rfl rfl (by simpa using hn) fun st1 hag G w a hr => ⟨.int .u8 b.toNat, by
    have e1 := RelV.str (hr.at hag hx fun t ht => by simp [ht])
    have e2 := RelV.int (hr.at hag hy fun t ht => by simp [ht])
    have e3 : (bs l)[i.toNat]? = some b := by rw [bs_get]; exact hb
    simp [execOp, e1, e2, Instr.index, asIntOf, run_underlying hu, h0, e3], relByte _ _ _ _⟩
theorem op_slsh {t : TypeId} {l : List UInt8} {h : Int} (hu : P.underlying t = some .string) (hx : st.ev x = some (.v (bs l))) (hz : st.ev z = some (.v h)) (hn : Nat.blt d st.n = true) (hb : 0 ≤ h ∧ h.toNat ≤ l.length) :
    OpOk P S ops ⟨some d, .slice t x none (some z) none, T, pos, aft, none⟩ (opT x ++ opT z) [] [(d, some (.v (bs (l.take h.toNat))))] [] st :=
  OpOk.value rfl rfl (by simpa using hn) fun st1 hag G w a hr => ⟨.string (bs (l.take h.toNat)), by
    have e1 := RelV.str (hr.at hag hx fun t ht => by simp [ht])
    have e2 := RelV.int (hr.at hag hz fun t ht => by simp [ht])
    have h1 : h ≤ (l.length : Int) := by omega
    simp [execOp, e1, e2, Instr.sliceAt, Instr.slice, Instr.sliceBounds, Instr.sliceBound, asIntOf, run_underlying hu, hb.1, h1, bs_size, bs_extract], relStr _ _ _ _⟩
theorem op_slsl {t : TypeId} {l : List UInt8} {h : Int} (hu : P.underlying t = some .string) (hx : st.ev x = some (.v (bs l))) (hy : st.ev y = some (.v h)) (hn : Nat.blt d st.n = true) (hb : 0 ≤ h ∧ h.toNat ≤ l.length) :
    OpOk P S ops ⟨some d, .slice t x (some y) none none, T, pos, aft, none⟩ (opT x ++ opT y) [] [(d, some (.v (bs (l.drop h.toNat))))] [] st :=
  OpOk.value rfl rfl (by simpa using hn) fun st1 hag G w a hr => ⟨.string (bs (l.drop h.toNat)), by
    have e1 := RelV.str (hr.at hag hx fun t ht => by simp [ht])
    have e2 := RelV.int (hr.at hag hy fun t ht => by simp [ht])
    have h1 : h ≤ (l.length : Int) := by omega
    have h2 : (l.drop h.toNat).take (l.length - h.toNat) = l.drop h.toNat := List.take_of_length_le (by simp)
    simp [execOp, e1, e2, Instr.sliceAt, Instr.slice, Instr.sliceBounds, Instr.sliceBound, asIntOf, run_underlying hu, hb.1, h1, bs_size, bs_extract, h2], relStr _ _ _ _⟩
theorem op_slslh {t : TypeId} {l : List UInt8} {h k : Int} (hu : P.underlying t = some .string) (hx : st.ev x = some (.v (bs l))) (hy : st.ev y = some (.v h)) (hz : st.ev z = some (.v k)) (hn : Nat.blt d st.n = true) (hb : 0 ≤ h ∧ h ≤ k ∧ k.toNat ≤ l.length) :
    OpOk P S ops ⟨some d, .slice t x (some y) (some z) none, T, pos, aft, none⟩ (opT x ++ (opT y ++ opT z)) [] [(d, some (.v (bs ((l.take k.toNat).drop h.toNat))))] [] st :=
  OpOk.value rfl rfl (by simpa using hn) fun st1 hag G w a hr => ⟨.string (bs ((l.take k.toNat).drop h.toNat)), by
    have e1 := RelV.str (hr.at hag hx fun t ht => by simp [ht])
    have e2 := RelV.int (hr.at hag hy fun t ht => by simp [ht])
    have e3 := RelV.int (hr.at hag hz fun t ht => by simp [ht])
    have h1 : k ≤ (l.length : Int) := by omega
    have h2 : (l.drop h.toNat).take (k.toNat - h.toNat) = (l.take k.toNat).drop h.toNat := by rw [List.drop_take]
    have h3 : 0 ≤ k := by omega
    have h4 : h ≤ (k.toNat : Int) := by omega
    have h5 : h ≤ max k 0 := by omega
    have h6 : ¬ max k 0 < h := by omega
    simp [execOp, e1, e2, e3, Instr.sliceAt, Instr.slice, Instr.sliceBounds, Instr.sliceBound, asIntOf, run_underlying hu, hb.1, h1, h3, h4, bs_size, bs_extract, h2, hb.2.1, h5, h6], relStr _ _ _ _⟩
/-! Bytes -/
theorem byte_bin {op : BinOp} {t t' : TypeId} {av : AV} {u : Value} {m n : UInt8} (hx : st.ev x = some (.v m)) (hy : st.ev y = some (.v n)) (hn : Nat.blt d st.n = true)
    (h1 : ∀ w : World, (binOp op t (.int .u8 m.toNat) (.int .u8 n.toNat)).run P w = .ok u w) (h3 : ∀ G w ω, RelV G w ω av u) :
    OpOk P S ops ⟨some d, .binOp op t x y t', T, pos, aft, none⟩ (opT x ++ opT y) [] [(d, some av)] [] st :=
  bin_value hn fun st1 hag G w a hr => by
    have e1 := RelV.byte (hr.at hag hx fun t ht => by simp [ht])
    have e2 := RelV.byte (hr.at hag hy fun t ht => by simp [ht])
    refine ⟨u, by rw [e1, e2]; exact h1 w, by rw [e1, eqGuard_at_int]; rfl, h3 _ _ _⟩
theorem op_lss8 {t t' : TypeId} {m n : UInt8} (hx : st.ev x = some (.v m)) (hy : st.ev y = some (.v n)) (hn : Nat.blt d st.n = true) :
    OpOk P S ops ⟨some d, .binOp .lss t x y t', T, pos, aft, none⟩ (opT x ++ opT y) [] [(d, some (.v (decide (m.toNat < n.toNat))))] [] st :=
  byte_bin hx hy hn (u := .bool (decide (m.toNat < n.toNat))) (fun w => by
    show Result.ok (Value.bool (decide ((m.toNat : Int) < (n.toNat : Int)))) w = _
    congr 2; simp) fun G w ω => relBool G w ω _
theorem op_gtr8 {t t' : TypeId} {m n : UInt8} (hx : st.ev x = some (.v m)) (hy : st.ev y = some (.v n)) (hn : Nat.blt d st.n = true) :
    OpOk P S ops ⟨some d, .binOp .gtr t x y t', T, pos, aft, none⟩ (opT x ++ opT y) [] [(d, some (.v (decide (n.toNat < m.toNat))))] [] st :=
  byte_bin hx hy hn (u := .bool (decide (n.toNat < m.toNat))) (fun w => by
    show Result.ok (Value.bool (decide ((n.toNat : Int) < (m.toNat : Int)))) w = _
    congr 2; simp) fun G w ω => relBool G w ω _
theorem op_eql8 {t t' : TypeId} {m n : UInt8} (hx : st.ev x = some (.v m)) (hy : st.ev y = some (.v n)) (hn : Nat.blt d st.n = true) :
    OpOk P S ops ⟨some d, .binOp .eql t x y t', T, pos, aft, none⟩ (opT x ++ opT y) [] [(d, some (.v (decide (m = n))))] [] st :=
  byte_bin hx hy hn (u := .bool (decide (m = n))) (fun w => by
    show Result.ok (Value.bool ((m.toNat : Int) == (n.toNat : Int))) w = _
    congr 2
    rw [Bool.eq_iff_iff]
    simp
    exact ⟨fun h => UInt8.toNat_inj.1 (by omega), fun h => by rw [h]⟩) fun G w ω => relBool G w ω _
theorem op_sub8 {t t' : TypeId} {m n : UInt8} (hx : st.ev x = some (.v m)) (hy : st.ev y = some (.v n)) (hn : Nat.blt d st.n = true) (hb : n.toNat ≤ m.toNat) :
    OpOk P S ops ⟨some d, .binOp .sub t x y t', T, pos, aft, none⟩ (opT x ++ opT y) [] [(d, some (.v (m - n)))] [] st :=
  byte_bin hx hy hn (u := .int .u8 (m - n).toNat) (fun w => by
    show Result.ok (Value.int .u8 (IntKind.u8.wrap ((m.toNat : Int) - (n.toNat : Int)))) w = _
    have h1 := m.toNat_lt
    have h2 : (m - n).toNat = m.toNat - n.toNat := UInt8.toNat_sub_of_le m n (UInt8.le_iff_toNat_le.2 hb)
    have h3 : IntKind.u8.wrap ((m.toNat : Int) - (n.toNat : Int)) = (m.toNat : Int) - (n.toNat : Int) := by
      unfold IntKind.wrap
      simp [IntKind.bits, IntKind.signed]
      omega
    rw [h3, h2]
    congr 2
    omega) fun G w ω => relByte G w ω _
theorem op_cvi8 {s t : TypeId} {m : Int} (hx : st.ev x = some (.v m)) (hn : Nat.blt d st.n = true) (hs : (P.underlying s).isSome = true) (ht : P.underlying t = some (.int .u8)) (hm : 0 ≤ m ∧ m < 256) :
    OpOk P S ops ⟨some d, .convert s t x, T, pos, aft, none⟩ (opT x) [] [(d, some (.v (UInt8.ofNat m.toNat)))] [] st :=
  OpOk.value rfl rfl (by simpa using hn) fun st1 hag G w a hr => ⟨.int .u8 (UInt8.ofNat m.toNat).toNat, by
    have e1 := RelV.int (hr.at hag hx fun t ht => ht)
    obtain ⟨ds, hds⟩ := Option.isSome_iff_exists.1 hs
    have hb : IntKind.u8.wrap m = ((UInt8.ofNat m.toNat).toNat : Int) := by
      rw [UInt8.toNat_ofNat_of_lt' (by show m.toNat < 256; omega)]
      unfold IntKind.wrap
      simp [IntKind.bits, IntKind.signed]
      omega
    simp only [execOp, e1, convert, Sem.run_bind, run_underlying hds, run_underlying ht, Result.andThen_ok]
    cases ds <;> simp [Conv.intToInt, hb], relByte _ _ _ _⟩
theorem op_cvbs {s t e : TypeId} {av : AV} {l : List UInt8} [hsrc : Src UInt8 av l] (hs : P.underlying s = some (.slice e)) (he : P.underlying e = some (.int .u8)) (ht : P.underlying t = some .string) (hx : st.ev x = some av) (hn : Nat.blt d st.n = true) :
    OpOk P S ops ⟨some d, .convert s t x, T, pos, aft, none⟩ (opT x) [] [(d, some (.v (bs l)))] [] st :=
  OpOk.value rfl rfl (by simpa using hn) fun st1 hag G w a hr => ⟨.string (bs l), by
    obtain ⟨ad, cap, h1, h2, h3⟩ := hsrc.rel (hr.at hag hx fun t ht => ht)
    have key : (convert s t (.slice ad l.length cap)).run P w = .ok (.string ⟨l.toArray⟩) w := by
      rcases h3 with rfl | ⟨b, off, rfl, hB, h3⟩
      · cases ad with
        | none => simp [convert, run_underlying hs, run_underlying ht, run_underlying he, Conv.bytesToString]; rfl
        | some a0 => exact run_convert_bytes_back w s t e a0 cap [] hs he ht (fun j hj => by cases hj)
      · refine run_convert_bytes_back w s t e _ cap l hs he ht fun j hj => ?_
        obtain ⟨c, c1, c2⟩ := h3 j l[j] (List.getElem?_eq_getElem hj)
        have c1' : c = [.int .u8 (l[j].toNat : Int)] := c1
        subst c1'
        have := (c2 0 _ rfl).2
        have hsz : Enc.size UInt8 = 1 := rfl
        rw [hsz, Nat.mul_one, Nat.add_zero] at this
        rw [add_lit]
        exact this
    simp only [execOp, h1, Sem.run_bind, key, Result.andThen_ok, Sem.run_pure], relStr _ _ _ _⟩
theorem op_cvsb {s t e : TypeId} {l : List UInt8} (hs : P.underlying s = some .string) (ht : P.underlying t = some (.slice e)) (he : P.underlying e = some (.int .u8)) (hx : st.ev x = some (.v (bs l))) (hB : l.length ≤ 4611686018427387904) (hn : Nat.blt d st.n = true) :
    OpOk P S ops ⟨some d, .convert s t x, T, pos, aft, none⟩ (opT x) [] [(d, some (.v l))] [] st := by
  intro st1 hag G w a hr K Q hK
  unfold stepO
  rw [if_pos (by simp [Region.wanted])]
  refine .inl ?_
  have e1 := RelV.str (hr.at hag hx fun t ht => ht)
  have hrun : (execOp a.eval ⟨some d, .convert s t x, T, pos, aft, none⟩).run P w = .ok (.value (.slice (some ⟨w.heap.size, 0, none⟩) l.length (grownCap w l.length 0 e)))
      (w.drew.alloc (.cells (bytesRow (bs l) (grownCap w l.length 0 e)) e ((bytesRow (bs l) (grownCap w l.length 0 e)).size, (bytesRow (bs l) (grownCap w l.length 0 e)).size + 1))) := by
    have h := run_bytes_of_string (P := P) w s t e (bs l) hs ht he
    rw [bs_size] at h
    simp only [execOp, e1, Sem.run_bind, h, Result.andThen_ok, Sem.run_pure]
  have hge := grownCap_ge w l.length 0 e
  generalize grownCap w l.length 0 e = cap at hrun hge
  generalize hC : bytesRow (bs l) cap = C at hrun
  unfold Oper.wp
  rw [hrun]
  simp only [Oper.upon]
  have h1 := hr.drew.newblk (.cells C e (C.size, C.size + 1)) (fun _ => none)
  refine hK _ _ _ (h1.put (av := some _) (by rw [hag.n]; simpa using hn) ?_) ((Keep.drew S G w).trans (Keep.blk S))
  refine ⟨_, ⟨some ⟨w.heap.size, 0, none⟩, cap, rfl, hge, .inr ⟨_, _, rfl, hB, fun i b hi => ⟨[.int .u8 b.toNat], rfl, fun j v hj => ?_⟩⟩⟩, rfl⟩
  have hj0 : j = 0 := by
    cases j with
    | zero => rfl
    | succ j => simp at hj
  subst hj0
  injection hj with hj
  subst hj
  have hil := getElem?_lt hi
  have hsz : Enc.size UInt8 = 1 := rfl
  rw [hsz, Nat.mul_one, Nat.zero_add, Nat.add_zero]
  refine ⟨by show (if _ then _ else _) = none; exact if_pos rfl, ?_⟩
  have hC2 : C[i]? = some (.int .u8 b.toNat) := by
    rw [← hC]
    unfold bytesRow
    rw [Array.getElem?_append_left (by simp; exact hil)]
    simp [hi]
  have hp : (w.drew.alloc (.cells C e (C.size, C.size + 1))).heap[w.drew.heap.size]? = some (.cells C e (C.size, C.size + 1)) := by
    show (w.drew.heap.push _)[w.drew.heap.size]? = _
    exact Array.getElem?_push_size
  show (w.drew.alloc (.cells C e (C.size, C.size + 1))).cell? ⟨w.drew.heap.size, i, none⟩ = _
  simp only [World.cell?, hp]
  simpa using hC2
/-! Functions without a body -/
def ExtB (P : Program) (f : FuncId) (e : Array Value → Sem Value) : Prop :=
  ∃ fn, P.funcs[f]? = some fn ∧ (fn.name == "runtime.NumGoroutine") = false ∧ fn.body.isNone = true ∧ Extern.findNext fn = none ∧ Extern.find fn = some e
theorem ext_run {f : FuncId} {e : Array Value → Sem Value} (h : ExtB P f e) (args : Array Value) (w : World) : (callFunc f args).run P w = ((e args).run P w).andThen fun v w' => .ok (.value v) w' := by
  obtain ⟨fn, h1, h2, h3, h4, h5⟩ := h
  exact run_callFunc_extern h1 h2 h3 h4 h5 args w
theorem byte_back (c : UInt8) : ((c.toNat : Int)).toNat.toUInt8 = c := by
  rw [Int.toNat_natCast]
  exact UInt8.ofNat_toNat
theorem op_ixb {f : FuncId} {ts : Array TypeId} {l : List UInt8} {c : UInt8} (hE : ExtB P f Extern.BytealgIndexByte.indexByte) (hx : st.ev x = some (.v (bs l))) (hy : st.ev y = some (.v c)) (hn : Nat.blt d st.n = true) :
    OpOk P S ops ⟨some d, .call { callee := .value (.func f), args := #[x, y], argTypes := ts }, T, pos, aft, none⟩ (opT x ++ opT y) [] [(d, some (.v (Go.Lib.indexByte l c)))] [] st :=
  OpOk.value rfl rfl (by simpa using hn) fun st1 hag G w a hr => ⟨.int .i64 (Go.Lib.indexByte l c), by
    have e1 := RelV.str (hr.at hag hx fun t ht => by simp [ht])
    have e2 := RelV.byte (hr.at hag hy fun t ht => by simp [ht])
    have hrun : (callFunc f #[.string (bs l), .int .u8 c.toNat]).run P w = .ok (.value (.int .i64 (Go.Lib.indexByte l c))) w := by
      rw [ext_run hE, Go.Lib.run_indexByteString, byte_back]
      rfl
    have e3 : a.eval (.func f) = .func (.func f) #[] #[] := rfl
    simp [execOp, resolve, Deferred.ofValue, invoke, e1, e2, e3, hrun], relInt _ _ _ _⟩
theorem op_cntb {f : FuncId} {ts : Array TypeId} {l : List UInt8} {c : UInt8} (hE : ExtB P f Extern.BytealgCount.count) (hx : st.ev x = some (.v (bs l))) (hy : st.ev y = some (.v c)) (hn : Nat.blt d st.n = true) :
    OpOk P S ops ⟨some d, .call { callee := .value (.func f), args := #[x, y], argTypes := ts }, T, pos, aft, none⟩ (opT x ++ opT y) [] [(d, some (.v ((Go.Lib.countByte l c : Nat) : Int)))] [] st :=
  OpOk.value rfl rfl (by simpa using hn) fun st1 hag G w a hr => ⟨.int .i64 (Go.Lib.countByte l c : Nat), by
    have e1 := RelV.str (hr.at hag hx fun t ht => by simp [ht])
    have e2 := RelV.byte (hr.at hag hy fun t ht => by simp [ht])
    have hrun : (callFunc f #[.string (bs l), .int .u8 c.toNat]).run P w = .ok (.value (.int .i64 (Go.Lib.countByte l c : Nat))) w := by
      rw [ext_run hE, Go.Lib.run_countString, byte_back]
      rfl
    have e3 : a.eval (.func f) = .func (.func f) #[] #[] := rfl
    simp [execOp, resolve, Deferred.ofValue, invoke, e1, e2, e3, hrun], relInt _ _ _ _⟩
/-! A row of empty strings -/
theorem op_mkn {o : Nat} {t E : TypeId} {bytes : Nat} {n : Int} (sl : SlOk P t E bytes ByteArray) (hz : ZeroOk P E ByteArray.empty) (hx : st.ev x = some (.v n)) (h0 : 0 ≤ n) (hb : (bytes : Int) * n ≤ 281474976710656) (hn63 : n ≤ 9223372036854775807) (ho : st.ob o = .free) (hn : Nat.blt d st.n = true) :
    OpOk P S ops ⟨some d, .makeSlice t x x, T, pos, aft, none⟩ (opT x) [o] [(d, some (.v (NRef.ref o)))] [(o, .arr (List.replicate n.toNat (bs [])))] st := by
  intro st1 hg G w a hr K Q hK
  unfold stepO
  rw [if_pos (by simp [Region.wanted])]
  refine .inl ?_
  obtain ⟨hu, i, hi, hby, hsz⟩ := sl.spec
  obtain ⟨i', zcs, k1, k2, k3⟩ := hz.ok
  rw [hi] at k1
  injection k1 with k1
  subst k1
  have e1 := RelV.int (hr.at hg hx fun t ht => ht)
  have hzc : zcs = [.string ByteArray.empty] := k3 G w (.tmp 0, [])
  have hcl : (Enc.val ByteArray zcs).cells = #[.string ByteArray.empty] := by rw [hzc]; rfl
  have hs1 : Enc.size ByteArray = 1 := rfl
  have hi1 : i.size = 1 := by rw [hsz, hs1]
  have hrun : (execOp a.eval ⟨some d, .makeSlice t x x, T, pos, aft, none⟩).run P w = .ok (.value (.slice (some ⟨w.heap.size, 0, none⟩) n.toNat n.toNat)) (w.alloc (.cells (List.replicate n.toNat (Value.string ByteArray.empty)).toArray E)) := by
    have h := run_make (P := P) w t E i _ hu hi k2 .i64 .i64 n n h0 (Int.le_refl _) (by rw [hby]; exact hb) hn63
    have hm : madeCells (Enc.val ByteArray zcs).cells (n.toNat * i.size) = (List.replicate n.toNat (Value.string ByteArray.empty)).toArray := by
      rw [hcl, hi1, Nat.mul_one]
      unfold madeCells
      apply Array.ext
      · simp
      · intro j h1 h2
        simp [Nat.mod_one]
    rw [hm] at h
    simp only [execOp, e1, Sem.run_bind, h, Result.andThen_ok, Sem.run_pure]
  unfold Oper.wp
  rw [hrun]
  simp only [Oper.upon]
  have hrows : Rows G w (List.replicate n.toNat (bs [])) (List.replicate n.toNat (Value.string ByteArray.empty)) := by
    refine ⟨by simp [hs1], fun j x hx => ⟨[.string x], rfl, fun q v hq => ?_⟩⟩
    have hxe : x = bs [] := by
      have := List.mem_of_getElem? hx
      exact (List.mem_replicate.1 this).2
    have hj := getElem?_lt hx
    rw [List.length_replicate] at hj
    have hq0 : q = 0 := by
      cases q with
      | zero => rfl
      | succ q => simp at hq
    subst hq0
    simp at hq
    subst hq
    rw [hs1, Nat.mul_one, Nat.add_zero, List.getElem?_replicate, if_pos hj, hxe]
    rfl
  have hna := hr.newarr (o := o) (e := E) (xs := List.replicate n.toNat (bs [])) (cap := n.toNat) (by rw [hg.ob o (by simp), ho]) hrows (by simp) (by simp [hs1])
  rw [List.length_replicate] at hna
  obtain ⟨G', h1, h2, h3⟩ := hna
  refine hK _ _ G' ?_ (h2 S)
  rw [← St.upd_upd]
  exact h1.put (av := some _) (by show d < st1.n; rw [hg.n]; simpa using hn) ⟨_, ⟨_, _, _, rfl, h3⟩, rfl⟩
end ops
end Go.Wt

/- What lines say. -/
set_option linter.unusedVariables false
set_option linter.unusedSimpArgs false
namespace Go.Wt
open Go
/-- A byte that is a digit. -/
def isDig (b : UInt8) : Bool := decide (48 ≤ b.toNat) && decide (b.toNat ≤ 57)
/-- A number, digit by digit. -/
def decF (acc : Int) : List UInt8 → Option Int
  | [] => some acc
  | b :: r => if isDig b then decF (10 * acc + ((b.toNat : Int) - 48)) r else none
/-- A number of so many digits. -/
def digF (l : List UInt8) (lo hi : Int) : Option Int := if within l.length lo hi then decF 0 l else none
/-- A number of one or two digits, or -1. -/
def numF (l : List UInt8) : Int := (digF l 1 2).getD (-1)
theorem decF_drop {l : List UInt8} {k : Nat} {b : UInt8} (acc : Int) (h : l[k]? = some b) : decF acc (l.drop k) = if isDig b then decF (10 * acc + ((b.toNat : Int) - 48)) (l.drop (k + 1)) else none := by
  rw [drop_at h]; rfl
theorem dig_bd {b : UInt8} (h : isDig b = true) : (48 : Int) ≤ b.toNat ∧ (b.toNat : Int) ≤ 57 := by
  simp only [isDig, Bool.and_eq_true, decide_eq_true_eq] at h
  omega
theorem dig_sub {b : UInt8} (h : isDig b = true) : ((b - 48).toNat : Int) = (b.toNat : Int) - 48 := by
  have h1 := dig_bd h
  rw [UInt8.toNat_sub_of_le b 48 (UInt8.le_iff_toNat_le.2 (by show 48 ≤ b.toNat; omega))]
  show ((b.toNat - 48 : Nat) : Int) = _
  omega
theorem pow10 {k : Nat} (h : k < 3) : (10 : Int) ^ k ≤ 100 := by
  have : k = 0 ∨ k = 1 ∨ k = 2 := by omega
  rcases this with e | e | e <;> rw [e] <;> decide
/-- A payment, digit by digit. -/
def payOfF (l : List UInt8) : Pay := match digF l 3 3 with
  | some n => ⟨n.tdiv 100, (n.tdiv 10).tmod 10, n.tmod 10⟩
  | none => .zero
def wordF (ws : List (List UInt8)) (k : Nat) : List UInt8 := ws.getD k []
theorem decF_bd : ∀ (l : List UInt8) (acc n : Int), 0 ≤ acc → decF acc l = some n → 0 ≤ n ∧ n < (acc + 1) * 10 ^ l.length
  | [], acc, n, h0, h => by
    simp only [decF, Option.some.injEq] at h
    subst h
    simp; omega
  | b :: r, acc, n, h0, h => by
    simp only [decF] at h
    split at h
    · rename_i hb
      have h1 := dig_bd hb
      have := decF_bd r _ n (by omega) h
      refine ⟨this.1, ?_⟩
      have h2 : (10 * acc + ((b.toNat : Int) - 48) + 1) * 10 ^ r.length ≤ ((acc + 1) * 10) * 10 ^ r.length := Int.mul_le_mul_of_nonneg_right (by omega) (Int.le_of_lt (Int.pow_pos (by decide)))
      have h3 : (acc + 1) * 10 ^ (b :: r).length = ((acc + 1) * 10) * 10 ^ r.length := by
        rw [List.length_cons, Int.pow_succ, Int.mul_assoc, Int.mul_comm (10 ^ r.length) 10]
      omega
    · cases h
theorem dig3_bd {l : List UInt8} {n : Int} (h : digF l 3 3 = some n) : 0 ≤ n ∧ n < 1000 ∧ l.length = 3 := by
  unfold digF at h
  split at h
  · rename_i hw
    have hl : l.length = 3 := by
      simp only [within, Bool.and_eq_true, decide_eq_true_eq] at hw
      omega
    have := decF_bd l 0 n (by decide) h
    rw [hl] at this
    simp at this
    exact ⟨this.1, by omega, hl⟩
  · cases h
/-- The reference's payment. -/
def payS (l : List UInt8) : Pay := if l.length = 3 then ⟨numF (l.take 1), numF ((l.take 2).drop 1), numF (l.drop 2)⟩ else .zero
theorem num_one (a : UInt8) : numF [a] = if isDig a then (a.toNat : Int) - 48 else -1 := by
  unfold numF digF
  rw [if_pos (by rfl)]
  simp only [decF]
  split <;> simp
/-- Both read the same payment, where it is one. -/
theorem pay_same (l : List UInt8) : payOfF l = payS l ∨ (payOk (payOfF l) = false ∧ payOk (payS l) = false) := by
  unfold payS
  by_cases hl : l.length = 3
  · rw [if_pos hl]
    match l, hl with
    | [a, b, c], _ =>
      show payOfF [a, b, c] = ⟨numF [a], numF [b], numF [c]⟩ ∨ _
      rw [num_one, num_one, num_one]
      have hw : within (([a, b, c] : List UInt8).length : Int) 3 3 = true := rfl
      by_cases ha : isDig a = true
      · by_cases hb : isDig b = true
        · by_cases hc : isDig c = true
          · left
            have h1 := dig_bd ha
            have h2 := dig_bd hb
            have h3 := dig_bd hc
            unfold payOfF digF
            rw [hw]
            simp only [decF, ha, hb, hc, if_true]
            generalize (a.toNat : Int) = x at *
            generalize (b.toNat : Int) = y at *
            generalize (c.toNat : Int) = z at *
            have e1 : (10 * (10 * (10 * 0 + (x - 48)) + (y - 48)) + (z - 48)).tdiv 100 = x - 48 := by rw [Int.tdiv_eq_ediv_of_nonneg (by omega)]; omega
            have e2 : ((10 * (10 * (10 * 0 + (x - 48)) + (y - 48)) + (z - 48)).tdiv 10).tmod 10 = y - 48 := by
              rw [Int.tdiv_eq_ediv_of_nonneg (by omega), Int.tmod_eq_emod_of_nonneg (by omega)]; omega
            have e3 : (10 * (10 * (10 * 0 + (x - 48)) + (y - 48)) + (z - 48)).tmod 10 = z - 48 := by rw [Int.tmod_eq_emod_of_nonneg (by omega)]; omega
            rw [e1, e2, e3]
          · right
            simp only [Bool.not_eq_true] at hc
            refine ⟨by unfold payOfF digF; rw [hw]; simp [decF, ha, hb, hc]; rfl, by show payOk ⟨numF [a], numF [b], numF [c]⟩ = false; rw [num_one, num_one, num_one]; simp [hc, payOk, within]⟩
        · right
          simp only [Bool.not_eq_true] at hb
          refine ⟨by unfold payOfF digF; rw [hw]; simp [decF, ha, hb]; rfl, by show payOk ⟨numF [a], numF [b], numF [c]⟩ = false; rw [num_one, num_one, num_one]; simp [hb, payOk, within]⟩
      · right
        simp only [Bool.not_eq_true] at ha
        refine ⟨by unfold payOfF digF; rw [hw]; simp [decF, ha]; rfl, by show payOk ⟨numF [a], numF [b], numF [c]⟩ = false; rw [num_one, num_one, num_one]; simp [ha, payOk, within]⟩
  · rw [if_neg hl]
    left
    unfold payOfF digF
    have hw : within (l.length : Int) 3 3 = false := by
      simp [within]; omega
    rw [hw]
    rfl
/-- Where a string is cut. -/
def cutB (l : List UInt8) (c : UInt8) : List UInt8 × List UInt8 × Bool :=
  if 0 ≤ Go.Lib.indexByte l c then (l.take (Go.Lib.indexByte l c).toNat, l.drop (Go.Lib.indexByte l c + 1).toNat, true) else (l, [], false)
theorem indexByte_lt : ∀ (l : List UInt8) (c : UInt8), Go.Lib.indexByte l c < (l.length : Int)
  | [], c => by simp [Go.Lib.indexByte]
  | b :: l, c => by
    have := indexByte_lt l c
    unfold Go.Lib.indexByte
    simp only [List.length_cons]
    split
    · omega
    · split
      · omega
      · omega
/-- A string in parts. -/
def splitF (c : UInt8) : List UInt8 → List (List UInt8)
  | [] => [[]]
  | b :: r => if b = c then [] :: splitF c r else (match splitF c r with | h :: t => (b :: h) :: t | [] => [[b]])
theorem splitF_ne (c : UInt8) : ∀ l, splitF c l ≠ []
  | [] => by simp [splitF]
  | b :: r => by
    simp only [splitF]
    split
    · simp
    · split <;> simp
theorem indexByte_neg : ∀ {l : List UInt8} {c : UInt8}, Go.Lib.indexByte l c < 0 → Go.Lib.countByte l c = 0 ∧ splitF c l = [l] ∧ Go.Lib.indexByte l c = -1
  | [], c, _ => ⟨rfl, rfl, rfl⟩
  | b :: l, c, h => by
    unfold Go.Lib.indexByte at h ⊢
    by_cases hb : b = c
    · rw [if_pos (by simp [hb])] at h; omega
    · rw [if_neg (by simp [hb])] at h ⊢
      have hge := Go.Lib.indexByte_ge l c
      by_cases hi : Go.Lib.indexByte l c = -1
      · have ih := indexByte_neg (l := l) (c := c) (by omega)
        refine ⟨?_, ?_, by rw [if_pos (by simp [hi])]⟩
        · unfold Go.Lib.countByte at ih ⊢
          rw [List.count_cons_of_ne hb]; exact ih.1
        · simp only [splitF]
          rw [if_neg hb, ih.2.1]
      · rw [if_neg (by simpa using hi)] at h
        omega
theorem indexByte_pos : ∀ {l : List UInt8} {c : UInt8}, 0 ≤ Go.Lib.indexByte l c →
    splitF c l = l.take (Go.Lib.indexByte l c).toNat :: splitF c (l.drop ((Go.Lib.indexByte l c).toNat + 1)) ∧ Go.Lib.countByte l c = Go.Lib.countByte (l.drop ((Go.Lib.indexByte l c).toNat + 1)) c + 1
  | [], c, h => by simp [Go.Lib.indexByte] at h
  | b :: l, c, h => by
    unfold Go.Lib.indexByte at h ⊢
    by_cases hb : b = c
    · subst hb
      rw [if_pos (by simp)]
      refine ⟨?_, ?_⟩
      · simp [splitF]
      · simp [Go.Lib.countByte]
    · rw [if_neg (by simp [hb])] at h ⊢
      have hge := Go.Lib.indexByte_ge l c
      by_cases hi : Go.Lib.indexByte l c = -1
      · rw [if_pos (by simp [hi])] at h; omega
      · rw [if_neg (by simpa using hi)] at h ⊢
        have hp : 0 ≤ Go.Lib.indexByte l c := by omega
        have ih := indexByte_pos hp
        have ht : (Go.Lib.indexByte l c + 1).toNat = (Go.Lib.indexByte l c).toNat + 1 := by omega
        rw [ht]
        refine ⟨?_, ?_⟩
        · simp only [splitF]
          rw [if_neg hb, ih.1]
          simp
        · unfold Go.Lib.countByte at ih ⊢
          rw [List.count_cons_of_ne hb, ih.2]
          simp
theorem splitF_len (c : UInt8) : ∀ l : List UInt8, (splitF c l).length = Go.Lib.countByte l c + 1
  | [] => rfl
  | b :: l => by
    have ih := splitF_len c l
    simp only [splitF]
    unfold Go.Lib.countByte at ih ⊢
    by_cases hb : b = c
    · subst hb
      rw [if_pos rfl]; simp [ih]
    · rw [if_neg hb, List.count_cons_of_ne hb]
      have hne := splitF_ne c l
      match h : splitF c l, hne with
      | x :: t, _ =>
        rw [h] at ih
        simpa using ih
theorem count_le (l : List UInt8) (c : UInt8) : Go.Lib.countByte l c ≤ l.length := List.count_le_length
/-- The reference cuts byte by byte. -/
def cutStep (c : UInt8) (out : List (List UInt8)) (b : UInt8) : List (List UInt8) :=
  if b = c then out ++ [[]] else out.set (out.length - 1) (out.getD (out.length - 1) [] ++ [b])
theorem cut_snoc (c : UInt8) (pre : List (List UInt8)) (last : List UInt8) (b : UInt8) : cutStep c (pre ++ [last]) b = if b = c then pre ++ [last] ++ [[]] else pre ++ [last ++ [b]] := by
  unfold cutStep
  split
  · rfl
  · have h1 : (pre ++ [last]).length - 1 = pre.length := by simp
    rw [h1, List.getD_eq_getElem?_getD, List.getElem?_append_right (Nat.le_refl _), Nat.sub_self]
    rw [List.set_append_right _ _ (Nat.le_refl _), Nat.sub_self]
    rfl
theorem cut_fold (c : UInt8) : ∀ (l : List UInt8) (pre : List (List UInt8)) (last : List UInt8), l.foldl (cutStep c) (pre ++ [last]) = pre ++ (match splitF c l with | h :: t => (last ++ h) :: t | [] => [last])
  | [], pre, last => by simp [splitF]
  | b :: l, pre, last => by
    rw [List.foldl_cons, cut_snoc]
    have hne := splitF_ne c l
    split
    · rename_i hb
      subst hb
      rw [cut_fold b l (pre ++ [last]) []]
      simp only [splitF, if_true]
      match h : splitF b l, hne with
      | x :: t, _ => simp
    · rename_i hb
      rw [cut_fold c l pre (last ++ [b])]
      simp only [splitF]
      rw [if_neg hb]
      match h : splitF c l, hne with
      | x :: t, _ => simp
theorem cut_all (c : UInt8) (l : List UInt8) : l.foldl (cutStep c) [[]] = splitF c l := by
  have h := cut_fold c l [] []
  have hne := splitF_ne c l
  rw [show ([] : List (List UInt8)) ++ [[]] = [[]] from rfl] at h
  rw [h]
  match h : splitF c l, hne with
  | x :: t, _ => simp
/-- How long the parts get. -/
theorem cut_bd (c : UInt8) (l : List UInt8) : ∀ k, 0 < ((l.take k).foldl (cutStep c) [[]]).length ∧ ((l.take k).foldl (cutStep c) [[]]).length ≤ k + 1 ∧ ∀ w ∈ (l.take k).foldl (cutStep c) [[]], w.length ≤ k
  | 0 => ⟨by simp, by simp, fun w hw => by simp at hw; simp [hw]⟩
  | k + 1 => by
    obtain ⟨h1, h2, h3⟩ := cut_bd c l k
    by_cases hk : k < l.length
    · have hx : l[k]? = some l[k] := List.getElem?_eq_getElem hk
      rw [foldl_at (cutStep c) _ hx]
      generalize (l.take k).foldl (cutStep c) [[]] = out at h1 h2 h3
      unfold cutStep
      split
      · refine ⟨by simp, by simp; omega, fun w hw => ?_⟩
        rcases List.mem_append.1 hw with q | q
        · have := h3 w q; omega
        · simp at q; subst q; simp
      · refine ⟨by simp; omega, by simp; omega, fun w hw => ?_⟩
        rcases List.mem_or_eq_of_mem_set hw with q | q
        · have := h3 w q; omega
        · subst q
          have hx : out[out.length - 1]? = some (out[out.length - 1]'(by omega)) := List.getElem?_eq_getElem (by omega)
          have := h3 _ (List.mem_of_getElem? hx)
          rw [List.getD_eq_getElem?_getD, hx]
          simp; omega
    · rw [take_end (by omega)]
      rw [take_end (show l.length ≤ k by omega)] at h1 h2 h3
      exact ⟨h1, by omega, fun w hw => by have := h3 w hw; omega⟩
/-- A number below 100, in digits. -/
def dg (n : Int) : UInt8 := UInt8.ofNat (48 + n).toNat
def decI (n : Int) : List UInt8 := if n < 10 then [dg n] else [dg (n.tdiv 10), dg (n.tmod 10)]
/-- What a node holds for final, as a line. -/
def statHead (id : Int) (c : List Itm) : List UInt8 := decI id ++ [32, 104, 97, 115, 32] ++ decI (c.length : Int)
def statStep (out : List UInt8) (x : Int) : List UInt8 := out ++ ([32] ++ decI x)
def statusF (id : Int) (n : Nod) : List UInt8 := (bookF (finalOf n.seen)).foldl statStep (statHead id (finalOf n.seen)) ++ [10]
theorem decI_len (n : Int) : (decI n).length ≤ 2 := by unfold decI; split <;> simp
theorem stat_len : ∀ (b : List Int) (out : List UInt8), (b.foldl statStep out).length ≤ out.length + 3 * b.length
  | [], out => by simp
  | x :: b, out => by
    have := stat_len b (statStep out x)
    have h2 := decI_len x
    rw [List.foldl_cons]
    unfold statStep at this ⊢
    simp at this ⊢
    omega
theorem statHead_len (id : Int) (c : List Itm) : (statHead id c).length ≤ 9 := by
  have := decI_len id
  have := decI_len (c.length : Int)
  unfold statHead
  simp
  omega
/-- An item of a forged chain, as the program and as the reference read it. -/
def itemI (l : List UInt8) : Itm := if (splitF 58 l).length = 2 then ⟨numF (wordF (splitF 58 l) 0), payOfF (wordF (splitF 58 l) 1)⟩ else .zero
def itemS (l : List UInt8) : Itm := ⟨numF (wordF (splitF 58 l) 0), if (splitF 58 l).length = 2 then payS (wordF (splitF 58 l) 1) else .zero⟩
theorem item_same (l : List UInt8) : itemI l = itemS l ∨ (payOk (itemI l).pay = false ∧ payOk (itemS l).pay = false) := by
  unfold itemI itemS
  by_cases h : (splitF 58 l).length = 2
  · rw [if_pos h, if_pos h]
    rcases pay_same (wordF (splitF 58 l) 1) with e | ⟨e1, e2⟩
    · left; rw [e]
    · exact .inr ⟨e1, e2⟩
  · rw [if_neg h, if_neg h]
    exact .inr ⟨rfl, rfl⟩
theorem splitF_part (c : UInt8) (l : List UInt8) : ∀ w ∈ splitF c l, w.length ≤ l.length := fun w hw => by
  have := (cut_bd c l l.length).2.2 w
  rw [List.take_length, cut_all] at this
  exact this hw
/-- What a line does, and what it says. -/
def whatB : List UInt8 := [119, 104, 97, 116, 10]
def chainI (s : List UInt8) : List Itm := (splitF 44 s).map itemI
def calmI (w : Wrld) (n : Int) (p : Pay) : Wrld := if payOk p then (List.replicate (max (min n 30) 0).toNat p).foldl calmF w else w
def lineI (w : Wrld) (ws : List (List UInt8)) : Wrld × List UInt8 :=
  if wordF ws 0 = [116, 105, 99, 107] then (tickF w, []) else
  if wordF ws 0 = [112, 114, 111, 112, 111, 115, 101] then (wproposeF w (numF (wordF ws 1)) (payOfF (wordF ws 2)), []) else
  if wordF ws 0 = [98, 114, 105, 110, 103] then (wbringF w (numF (wordF ws 1)) (numF (wordF ws 2)), []) else
  if wordF ws 0 = [102, 111, 114, 103, 101] then (doF w ⟨4, 0, 0, .zero, ⟨w.bad, chainI (wordF ws 1)⟩⟩, []) else
  if wordF ws 0 = [115, 112, 114, 101, 97, 100] then (spreadF w, []) else
  if wordF ws 0 = [99, 97, 108, 109] then (calmI w (numF (wordF ws 1)) (payOfF (wordF ws 2)), []) else
  if wordF ws 0 = [115, 101, 101] then (w, if within (numF (wordF ws 1)) 1 4 then statusF (numF (wordF ws 1)) (w.nodes.getD (numF (wordF ws 1) - 1).toNat .zero) else whatB) else
  if wordF ws 0 = [108, 111, 103] then (w, decI (w.log.length : Int) ++ [10]) else (w, whatB)
end Go.Wt

/- Lines: numbers and payments. -/
set_option linter.unusedVariables false
set_option linter.unusedSimpArgs false
namespace Go.Proofs.YtgfoeiieopnlaaaGreatDoor
open Go Go.Wt
theorem digits_ct (l : List UInt8) (lo hi : Int) (hh : hi ≤ 3) : CtP Tryz.prog 75 [.v (bs l), .v lo, .v hi] (.tup [.v ((digF l lo hi).getD 0), .v (digF l lo hi).isSome]) := by
  refine Ct.intro Tryz.func75 rfl rfl ?_
  all_goals refine aS (aR ?_)
  all_goals refine oC (oA rfl (Conv.of rfl) rfl) ?_
  all_goals refine oC (oA rfl (Conv.of rfl) rfl) ?_
  all_goals refine oN ?_
  all_goals refine aS (aS (aR ?_))
  all_goals refine oC (oM rfl (Conv.of rfl) rfl) ?_
  all_goals refine oC (op_lens un9 rfl rfl) ?_
  all_goals refine oC (oM rfl (Conv.of rfl) rfl) ?_
  all_goals refine oC (oM rfl (Conv.of rfl) rfl) ?_
  all_goals refine oC (oL fb35 (.cons rfl (Conv.of rfl) (.cons rfl (Conv.of rfl) (.cons rfl (Conv.of rfl) (.nil _)))) (within_ct _ _ _) (aK rfl rfl (aK rfl rfl (aK rfl rfl aK0))) rfl rfl) ?_
  all_goals refine oC (op_not rfl rfl) ?_
  all_goals refine oN ?_
  refine aC rfl (fun h => ?_) (fun h => ?_)
  · all_goals refine aS (aR ?_)
    all_goals refine oC (oA rfl (Conv.of rfl) rfl) ?_
    all_goals refine oC (oA rfl (Conv.of rfl) rfl) ?_
    all_goals refine oN ?_
    refine aT ?_
    repeat first | refine rS ?_ | refine rB ?_
    have h' : digF l lo hi = none := by unfold digF; rw [not_t h]; rfl
    rw [h']
    exact ⟨_, _, resN (ol := []) (.cons (.v rfl (Conv.of rfl)) (.cons (.v rfl (Conv.of rfl)) .nil)) rfl (fun o ho => absurd (show o ∈ ([] : List Nat) from ho) (by simp)) oln noS, rfl, rfl⟩
  have hw := not_f h
  have hd : digF l lo hi = decF 0 l := by unfold digF; rw [hw]; rfl
  have hl : l.length ≤ 3 := by
    simp only [within, Bool.and_eq_true, decide_eq_true_eq] at hw
    omega
  rw [hd]
  refine aW ?_
  all_goals refine aS (aR ?_)
  all_goals refine oC (oA rfl (Conv.of rfl) rfl) ?_
  all_goals refine oN ?_
  all_goals refine aS (aS (aR ?_))
  all_goals refine oC (oM rfl (Conv.of rfl) rfl) ?_
  all_goals refine oC (op_cvsb un9 ul22 uy5 rfl (by omega) rfl) ?_
  all_goals refine oC (oE sl22 rfl rfl) ?_
  all_goals refine oC (oM rfl (Conv.of rfl) rfl) ?_
  all_goals refine oN ?_
  refine aB ?_
  refine awp_loop' (fun n_ s => ∃ (k : Nat), ∃ (acc : Int), ∃ (hn : n_ + k = l.length), ∃ (hb : 0 ≤ acc ∧ acc < 10 ^ k), ∃ (hall : decF acc (l.drop k) = decF 0 l), s = mkSt 38 [(8, .v acc), (18, .v l), (19, .v (l.length : Int)), (20, .v (k : Int))] []) (l.length) ⟨0, 0, by omega, (by decide), rfl, rfl⟩ (Le.mk rfl (tle rfl (rfl) rfl (tle rfl (rfl) rfl (tle rfl (rfl) rfl (tle rfl (rfl) rfl tln)))) oln noS) ?_
  rintro n_ s ⟨k, acc, hn, hb, hall, rfl⟩
  all_goals refine aS (aR ?_)
  all_goals refine oC (oLt rfl rfl rfl) ?_
  all_goals refine oN ?_
  refine aS (aC rfl (fun h => ?_) (fun h => ?_))
  · have hlt : k < l.length := by simpa using h
    have hx : l[k]? = some l[k] := List.getElem?_eq_getElem hlt
    generalize l[k] = b at hx
    have hx' : l[(k : Int).toNat]? = some b := hx
    have hp := pow10 (k := k) (by omega)
    have hst := decF_drop acc hx
    have hps : (10 : Int) ^ (k + 1) = 10 ^ k * 10 := by rw [Int.pow_succ]
    refine aW ?_
    refine aS (aB ?_)
    all_goals refine aS (aR ?_)
    all_goals refine oC (op_ix sl22 rfl rfl rfl (by omega) hx') ?_
    all_goals refine oC (oDR ty5 rfl rfl) ?_
    all_goals refine oC (oA rfl (Conv.of rfl) rfl) ?_
    all_goals refine oN ?_
    refine aS (aST (s' := mkSt 38 [(8, .v acc), (10, .v b), (18, .v l), (19, .v (l.length : Int)), (20, .v (k : Int)), (29, .v (!isDig b))] []) ?_ ?_)
    · all_goals refine aR ?_
      all_goals refine oC (oM rfl (Conv.of rfl) rfl) ?_
      all_goals refine oC (op_lss8 rfl rfl rfl) ?_
      all_goals refine oC (oM rfl (Conv.of rfl) rfl) ?_
      all_goals refine g_split (t := 26) rfl (fun h => ?_) (fun h => ?_)
      all_goals first | refine oC (gF rfl rfl rfl rfl rfl) ?_ | refine oC (gN rfl rfl rfl (oM rfl (Conv.of rfl) rfl)) ?_
      all_goals first | refine oC (gF rfl rfl rfl rfl rfl) ?_ | refine oC (gN rfl rfl rfl (op_gtr8 rfl rfl rfl)) ?_
      all_goals refine oC (oQ rfl rfl rfl rfl) ?_
      all_goals refine oN ?_
      all_goals exact Le.mk rfl (tle rfl (rfl) rfl (tle rfl (rfl) rfl (tle rfl (rfl) rfl (tle rfl (rfl) rfl (tle rfl (rfl) rfl (tle rfl (by (clear hall hst; show AV.v _ = AV.v _; simp_all [isDig]; try (rw [Bool.eq_iff_iff]; simp); try omega)) rfl tln)))))) oln noS
    refine aC rfl (fun h2 => ?_) (fun h2 => ?_)
    · have h3 : isDig b = false := not_t h2
      all_goals refine aS (aR ?_)
      all_goals refine oC (oA rfl (Conv.of rfl) rfl) ?_
      all_goals refine oC (oA rfl (Conv.of rfl) rfl) ?_
      all_goals refine oN ?_
      refine aT ?_
      repeat first | refine rS ?_ | refine rB ?_
      have h4 : decF 0 l = none := by rw [← hall, hst, h3]; rfl
      rw [h4]
      exact ⟨_, _, resN (ol := []) (.cons (.v rfl (Conv.of rfl)) (.cons (.v rfl (Conv.of rfl)) .nil)) rfl (fun o ho => absurd (show o ∈ ([] : List Nat) from ho) (by simp)) oln noS, rfl, rfl⟩
    · have h3 : isDig b = true := not_f h2
      have hd2 := dig_bd h3
      have hd3 := dig_sub h3
      refine aW ?_
      all_goals refine aR ?_
      all_goals refine oC (oM rfl (Conv.of rfl) rfl) ?_
      all_goals refine oC (op_mul rfl rfl rfl (by omega)) ?_
      all_goals refine oC (oM rfl (Conv.of rfl) rfl) ?_
      all_goals refine oC (op_sub8 rfl rfl rfl (by (show 48 ≤ b.toNat; omega))) ?_
      all_goals refine oC (op_cvb rfl rfl us5 ui3) ?_
      all_goals refine oC (oP rfl rfl rfl (by (have h9 : (((b - UInt8.ofNat (48 : Int).toNat).toNat : Nat) : Int) = (b.toNat : Int) - 48 := hd3; omega))) ?_
      all_goals refine oC (oA rfl (Conv.of rfl) rfl) ?_
      all_goals refine oN ?_
      all_goals refine aR ?_
      all_goals refine oC (oP rfl rfl rfl (by omega)) ?_
      all_goals refine oC (oM rfl (Conv.of rfl) rfl) ?_
      all_goals refine oN ?_
      repeat first | refine nS ?_ | refine nB ?_
      exact ⟨n_ - 1, _, by omega, ⟨k + 1, 10 * acc + (((b - 48).toNat : Nat) : Int), by omega, (by rw [hd3, hps]; omega), (by rw [hd3, ← hall, hst, h3]; rfl), rfl⟩, Le.mk rfl (tle rfl (rfl) rfl (tle rfl (rfl) rfl (tle rfl (rfl) rfl (tle rfl (rfl) rfl tln)))) oln noS⟩
  · refine aE ?_
    repeat refine ex_seq ?_
    refine eB ?_
    have hk : l.length ≤ k := by simpa using h
    have h4 : decF 0 l = some acc := by rw [← hall, drop_end hk]; rfl
    rw [h4]
    all_goals refine aS (aR ?_)
    all_goals refine oC (oM rfl (Conv.of rfl) rfl) ?_
    all_goals refine oC (oA rfl (Conv.of rfl) rfl) ?_
    all_goals refine oC (oA rfl (Conv.of rfl) rfl) ?_
    all_goals refine oN ?_
    refine aT ?_
    repeat first | refine rS ?_ | refine rB ?_
    exact ⟨_, _, resN (ol := []) (.cons (.v rfl (Conv.of rfl)) (.cons (.v rfl (Conv.of rfl)) .nil)) rfl (fun o ho => absurd (show o ∈ ([] : List Nat) from ho) (by simp)) oln noS, rfl, rfl⟩
theorem l1Dec_ct (l : List UInt8) : CtP Tryz.prog 93 [.v (bs l)] (.v (numF l)) := by
  refine Ct.intro Tryz.func93 rfl rfl ?_
  all_goals refine aS (aR ?_)
  all_goals refine oC (oA rfl (Conv.of rfl) rfl) ?_
  all_goals refine oN ?_
  all_goals refine aS (aR ?_)
  all_goals refine oC (oA rfl (Conv.of rfl) rfl) ?_
  all_goals refine oN ?_
  all_goals refine aS (aS (aR ?_))
  all_goals refine oC (oM rfl (Conv.of rfl) rfl) ?_
  all_goals refine oC (op_lens un9 rfl rfl) ?_
  all_goals refine oC (oL fb54 (.cons rfl (Conv.of rfl) (.cons rfl (Conv.of rfl) (.cons rfl (Conv.of rfl) (.nil _)))) (l6In_ct _ _ _) (aK rfl rfl (aK rfl rfl (aK rfl rfl aK0))) rfl rfl) ?_
  all_goals refine oC (op_not rfl rfl) ?_
  all_goals refine oN ?_
  refine aC rfl (fun h => ?_) (fun h => ?_)
  · all_goals refine aS (aR ?_)
    all_goals refine oC (oA rfl (Conv.of rfl) rfl) ?_
    all_goals refine oN ?_
    refine aT ?_
    repeat first | refine rS ?_ | refine rB ?_
    have h' : numF l = -1 := by unfold numF digF; rw [not_t h]; rfl
    rw [h']
    exact finP (.v rfl (Conv.of rfl)) rfl rfl
  have hw := not_f h
  have hd : numF l = (decF 0 l).getD (-1) := by unfold numF digF; rw [hw]; rfl
  have hl : l.length ≤ 2 := by
    simp only [within, Bool.and_eq_true, decide_eq_true_eq] at hw
    omega
  rw [hd]
  refine aW ?_
  all_goals refine aS (aS (aR ?_))
  all_goals refine oC (oA rfl (Conv.of rfl) rfl) ?_
  all_goals refine oN ?_
  refine aB ?_
  refine awp_loop' (fun n_ s => ∃ (k : Nat), ∃ (acc : Int), ∃ (hn : n_ + k = l.length), ∃ (hb : 0 ≤ acc ∧ acc < 10 ^ k), ∃ (hall : decF acc (l.drop k) = decF 0 l), s = mkSt 34 [(0, .v (bs l)), (3, .v acc), (4, .v (k : Int))] []) (l.length) ⟨0, 0, by omega, (by decide), rfl, rfl⟩ (Le.mk rfl (tle rfl (rfl) rfl (tle rfl (rfl) rfl (tle rfl (rfl) rfl tln))) oln noS) ?_
  rintro n_ s ⟨k, acc, hn, hb, hall, rfl⟩
  all_goals refine aS (aS (aR ?_))
  all_goals refine oC (oM rfl (Conv.of rfl) rfl) ?_
  all_goals refine oC (oM rfl (Conv.of rfl) rfl) ?_
  all_goals refine oC (op_lens un9 rfl rfl) ?_
  all_goals refine oC (oLt rfl rfl rfl) ?_
  all_goals refine oN ?_
  refine aC rfl (fun h => ?_) (fun h => ?_)
  · have hlt : k < l.length := by simpa using h
    have hx : l[k]? = some l[k] := List.getElem?_eq_getElem hlt
    generalize l[k] = b at hx
    have hx' : l[(k : Int).toNat]? = some b := hx
    have hp := pow10 (k := k) (by omega)
    have hst := decF_drop acc hx
    have hps : (10 : Int) ^ (k + 1) = 10 ^ k * 10 := by rw [Int.pow_succ]
    refine aW ?_
    refine aS (aB ?_)
    refine aS (aST (s' := mkSt 34 [(0, .v (bs l)), (3, .v acc), (4, .v (k : Int)), (24, .v (!isDig b))] []) ?_ ?_)
    · all_goals refine aR ?_
      all_goals refine oC (oM rfl (Conv.of rfl) rfl) ?_
      all_goals refine oC (oM rfl (Conv.of rfl) rfl) ?_
      all_goals refine oC (op_idxs un9 rfl rfl rfl (by omega) hx') ?_
      all_goals refine oC (op_lss8 rfl rfl rfl) ?_
      all_goals refine oC (oM rfl (Conv.of rfl) rfl) ?_
      all_goals refine g_split (t := 19) rfl (fun h => ?_) (fun h => ?_)
      all_goals first | refine oC (gF rfl rfl rfl rfl rfl) ?_ | refine oC (gN rfl rfl rfl (oM rfl (Conv.of rfl) rfl)) ?_
      all_goals first | refine oC (gF rfl rfl rfl rfl rfl) ?_ | refine oC (gN rfl rfl rfl (oM rfl (Conv.of rfl) rfl)) ?_
      all_goals first | refine oC (gF rfl rfl rfl rfl rfl) ?_ | refine oC (gN rfl rfl rfl (op_idxs un9 rfl rfl rfl (by omega) hx')) ?_
      all_goals first | refine oC (gF rfl rfl rfl rfl rfl) ?_ | refine oC (gN rfl rfl rfl (op_gtr8 rfl rfl rfl)) ?_
      all_goals refine oC (oQ rfl rfl rfl rfl) ?_
      all_goals refine oN ?_
      all_goals exact Le.mk rfl (tle rfl (rfl) rfl (tle rfl (rfl) rfl (tle rfl (rfl) rfl (tle rfl (by (clear hall hst; show AV.v _ = AV.v _; simp_all [isDig]; try (rw [Bool.eq_iff_iff]; simp); try omega)) rfl tln)))) oln noS
    refine aC rfl (fun h2 => ?_) (fun h2 => ?_)
    · have h3 : isDig b = false := not_t h2
      all_goals refine aS (aR ?_)
      all_goals refine oC (oA rfl (Conv.of rfl) rfl) ?_
      all_goals refine oN ?_
      refine aT ?_
      repeat first | refine rS ?_ | refine rB ?_
      have h4 : decF 0 l = none := by rw [← hall, hst, h3]; rfl
      rw [h4]
      exact finP (.v rfl (Conv.of rfl)) rfl rfl
    · have h3 : isDig b = true := not_f h2
      have hd2 := dig_bd h3
      have hd3 := dig_sub h3
      refine aW ?_
      all_goals refine aR ?_
      all_goals refine oC (oM rfl (Conv.of rfl) rfl) ?_
      all_goals refine oC (op_mul rfl rfl rfl (by omega)) ?_
      all_goals refine oC (oM rfl (Conv.of rfl) rfl) ?_
      all_goals refine oC (oM rfl (Conv.of rfl) rfl) ?_
      all_goals refine oC (op_idxs un9 rfl rfl rfl (by omega) hx') ?_
      all_goals refine oC (op_sub8 rfl rfl rfl (by (show 48 ≤ b.toNat; omega))) ?_
      all_goals refine oC (op_cvb rfl rfl us5 ui3) ?_
      all_goals refine oC (oP rfl rfl rfl (by (have h9 : (((b - UInt8.ofNat (48 : Int).toNat).toNat : Nat) : Int) = (b.toNat : Int) - 48 := hd3; omega))) ?_
      all_goals refine oC (oA rfl (Conv.of rfl) rfl) ?_
      all_goals refine oN ?_
      all_goals refine aR ?_
      all_goals refine oC (oM rfl (Conv.of rfl) rfl) ?_
      all_goals refine oC (oP rfl rfl rfl (by omega)) ?_
      all_goals refine oC (oA rfl (Conv.of rfl) rfl) ?_
      all_goals refine oN ?_
      repeat first | refine nS ?_ | refine nB ?_
      exact ⟨n_ - 1, _, by omega, ⟨k + 1, 10 * acc + (((b - 48).toNat : Nat) : Int), by omega, (by rw [hd3, hps]; omega), (by rw [hd3, ← hall, hst, h3]; rfl), rfl⟩, Le.mk rfl (tle rfl (rfl) rfl (tle rfl (rfl) rfl (tle rfl (rfl) rfl tln))) oln noS⟩
  · refine aE ?_
    repeat refine ex_seq ?_
    refine eB ?_
    have hk : l.length ≤ k := by simpa using h
    have h4 : decF 0 l = some acc := by rw [← hall, drop_end hk]; rfl
    rw [h4]
    all_goals refine aS (aR ?_)
    all_goals refine oC (oM rfl (Conv.of rfl) rfl) ?_
    all_goals refine oC (oA rfl (Conv.of rfl) rfl) ?_
    all_goals refine oN ?_
    refine aT ?_
    repeat first | refine rS ?_ | refine rB ?_
    exact finP (.v rfl (Conv.of rfl)) rfl rfl
end Go.Proofs.YtgfoeiieopnlaaaGreatDoor

/- Lines: words, numbers and payments of lines. -/
set_option linter.unusedVariables false
set_option linter.unusedSimpArgs false
namespace Go.Proofs.YtgfoeiieopnlaaaGreatDoor
open Go Go.Wt
theorem words_at {ws : List (List UInt8)} {k : Nat} (h : k < ws.length) : (ws.map bs)[k]? = some (bs (wordF ws k)) := by
  unfold wordF
  rw [List.getElem?_map, List.getElem?_eq_getElem h, List.getD_eq_getElem?_getD, List.getElem?_eq_getElem h]; rfl
theorem words_no {ws : List (List UInt8)} {k : Nat} (h : ws.length ≤ k) : wordF ws k = [] := by
  unfold wordF
  rw [List.getD_eq_getElem?_getD, List.getElem?_eq_none h]; rfl
theorem word_ct (ws : List (List UInt8)) (k : Nat) : CtP Tryz.prog 38 [.v (ws.map bs), .v (k : Int)] (.v (bs (wordF ws k))) := by
  refine Ct.intro Tryz.func38 rfl rfl ?_
  refine aS (aR ?_)
  refine oC (oA rfl (Conv.of rfl) rfl) ?_
  refine oN ?_
  refine aS (aS (aR ?_))
  refine oC (oM rfl (Conv.of rfl) rfl) ?_
  refine oC (oM rfl (Conv.of rfl) rfl) ?_
  refine oC (oE sl68 rfl rfl) ?_
  refine oC (op_geq rfl rfl rfl) ?_
  refine oN ?_
  refine aC rfl (fun h => ?_) (fun h => ?_)
  · have hk : ws.length ≤ k := by have := of_decide_eq_true h; simp at this; omega
    rw [words_no hk]
    refine aS (aR ?_)
    refine oC (oA rfl (Conv.of rfl) rfl) ?_
    refine oN ?_
    refine aT ?_
    repeat first | refine rS ?_ | refine rB ?_
    exact finP (.v rfl (Conv.of rfl)) rfl rfl
  · have hk : k < ws.length := by have := of_decide_eq_false h; simp at this; omega
    have hx : (ws.map bs)[(k : Int).toNat]? = some (bs (wordF ws k)) := words_at hk
    refine aW ?_
    refine aS (aR ?_)
    refine oC (oM rfl (Conv.of rfl) rfl) ?_
    refine oC (oM rfl (Conv.of rfl) rfl) ?_
    refine oC (op_ix sl68 rfl rfl rfl (by omega) hx) ?_
    refine oC (oDR ty9 rfl rfl) ?_
    refine oC (oA rfl (Conv.of rfl) rfl) ?_
    refine oN ?_
    refine aT ?_
    repeat first | refine rS ?_ | refine rB ?_
    exact finP (.v rfl (Conv.of rfl)) rfl rfl
theorem number_ct (ws : List (List UInt8)) (k : Nat) : CtP Tryz.prog 41 [.v (ws.map bs), .v (k : Int)] (.v (numF (wordF ws k))) := by
  refine Ct.intro Tryz.func41 rfl rfl ?_
  refine aS (aR ?_)
  refine oC (oA rfl (Conv.of rfl) rfl) ?_
  refine oN ?_
  refine aS (aR ?_)
  refine oC (oM rfl (Conv.of rfl) rfl) ?_
  refine oC (oM rfl (Conv.of rfl) rfl) ?_
  refine oC (oL fb38 (.cons rfl (Conv.of rfl) (.cons rfl (Conv.of rfl) (.nil _))) (word_ct ws k) (aK rfl rfl (aK rfl rfl aK0)) rfl rfl) ?_
  refine oC (oL fb75 (.cons rfl (Conv.of rfl) (.cons rfl (Conv.of rfl) (.cons rfl (Conv.of rfl) (.nil _)))) (digits_ct _ 1 2 (by decide)) (aK rfl rfl (aK rfl rfl (aK rfl rfl aK0))) rfl rfl) ?_
  refine oC (oM rfl (Conv.of rfl) rfl) ?_
  refine oC (op_ext rfl rfl rfl) ?_
  refine oC (op_ext rfl rfl rfl) ?_
  refine oC (oA rfl (Conv.of rfl) rfl) ?_
  refine oC (oA rfl (Conv.of rfl) rfl) ?_
  refine oN ?_
  refine aS (aS (aR ?_))
  refine oC (oM rfl (Conv.of rfl) rfl) ?_
  refine oC (op_not rfl rfl) ?_
  refine oN ?_
  unfold numF
  cases digF (wordF ws k) 1 2 with
  | none =>
    refine aC rfl (fun h => ?_) (fun h => absurd h (by decide))
    refine aS (aR ?_)
    refine oC (oA rfl (Conv.of rfl) rfl) ?_
    refine oN ?_
    refine aT ?_
    repeat first | refine rS ?_ | refine rB ?_
    exact finP (.v rfl (Conv.of rfl)) rfl rfl
  | some n =>
    refine aC rfl (fun h => by simp at h) (fun h => ?_)
    refine aW ?_
    refine aS (aR ?_)
    refine oC (oM rfl (Conv.of rfl) rfl) ?_
    refine oC (oA rfl (Conv.of rfl) rfl) ?_
    refine oN ?_
    refine aT ?_
    repeat first | refine rS ?_ | refine rB ?_
    exact finP (.v rfl (Conv.of rfl)) rfl rfl
theorem readPay_ct (l : List UInt8) : CtP Tryz.prog 42 [.v (bs l)] (.v (payOfF l)) := by
  refine Ct.intro Tryz.func42 rfl rfl ?_
  refine aS (aR ?_)
  refine oC (oX (o := 0) z61 rfl rfl) ?_
  refine oN ?_
  refine aS (aR ?_)
  refine oC (oM rfl (Conv.of rfl) rfl) ?_
  refine oC (oL fb75 (.cons rfl (Conv.of rfl) (.cons rfl (Conv.of rfl) (.cons rfl (Conv.of rfl) (.nil _)))) (digits_ct l 3 3 (by decide)) (aK rfl rfl (aK rfl rfl (aK rfl rfl aK0))) rfl rfl) ?_
  refine oC (oM rfl (Conv.of rfl) rfl) ?_
  refine oC (op_ext rfl rfl rfl) ?_
  refine oC (op_ext rfl rfl rfl) ?_
  refine oC (oA rfl (Conv.of rfl) rfl) ?_
  refine oC (oA rfl (Conv.of rfl) rfl) ?_
  refine oN ?_
  refine aS (aS (aR ?_))
  refine oC (oM rfl (Conv.of rfl) rfl) ?_
  refine oC (op_not rfl rfl) ?_
  refine oN ?_
  unfold payOfF
  cases hd : digF l 3 3 with
  | none =>
    refine aC rfl (fun h => ?_) (fun h => absurd h (by decide))
    refine aS (aR ?_)
    refine oC (op_build (.nil _) z61 rfl pl61 rfl) ?_
    refine oC (op_st ty61 rfl rfl (Conv.of rfl) rfl) ?_
    refine oN ?_
    refine aT ?_
    repeat first | refine rS ?_ | refine rB ?_
    exact finP (.rc ty61 rfl rfl) rfl rfl
  | some n =>
    have hb := dig3_bd hd
    have q1 := tdiv_bd hb.1 (show (0 : Int) < 100 by omega)
    have q2 := tdiv_bd hb.1 (show (0 : Int) < 10 by omega)
    have w1 : IntKind.i64.wrap (n.tdiv 100) = n.tdiv 100 := wrap_in (by omega)
    have w2 : IntKind.i64.wrap (n.tdiv 10) = n.tdiv 10 := wrap_in (by omega)
    refine aC rfl (fun h => by simp at h) (fun h => ?_)
    refine aW ?_
    refine aS (aR ?_)
    refine oC (oM rfl (Conv.of rfl) rfl) ?_
    refine oC (op_quo rfl rfl rfl (by decide)) ?_
    refine oC (oM rfl (Conv.of rfl) rfl) ?_
    refine oC (op_quo rfl rfl rfl (by decide)) ?_
    refine oC (op_rem rfl rfl rfl (by decide)) ?_
    refine oC (oM rfl (Conv.of rfl) rfl) ?_
    refine oC (op_rem rfl rfl rfl (by decide)) ?_
    refine oC (op_build (.cons f61_0 rfl (Conv.of rfl) (.cons f61_1 rfl (Conv.of rfl) (.cons f61_2 rfl (Conv.of rfl) (.nil _)))) z61 rfl pl61 rfl) ?_
    refine oC (op_st ty61 rfl rfl (Conv.of rfl) rfl) ?_
    refine oN ?_
    refine aT ?_
    repeat first | refine rS ?_ | refine rB ?_
    refine finP (.rc ty61 rfl rfl) rfl ?_
    show AV.v (Pay.mk (IntKind.i64.wrap (n.tdiv 100)) ((IntKind.i64.wrap (n.tdiv 10)).tmod 10) (n.tmod 10)) = _
    rw [w1, w2]
theorem l31Word_ct (ws : List (List UInt8)) (k : Nat) : CtP Tryz.prog 60 [.v (ws.map bs), .v (k : Int)] (.v (bs (wordF ws k))) := by
  refine Ct.intro Tryz.func60 rfl rfl ?_
  refine aS (aR ?_)
  refine oC (oA rfl (Conv.of rfl) rfl) ?_
  refine oN ?_
  refine aS (aS (aR ?_))
  refine oC (oM rfl (Conv.of rfl) rfl) ?_
  refine oC (oM rfl (Conv.of rfl) rfl) ?_
  refine oC (oE sl29 rfl rfl) ?_
  refine oC (oLt rfl rfl rfl) ?_
  refine oN ?_
  refine aC rfl (fun h => ?_) (fun h => ?_)
  · have hk : k < ws.length := by have := of_decide_eq_true h; simp at this; omega
    have hx : (ws.map bs)[(k : Int).toNat]? = some (bs (wordF ws k)) := words_at hk
    refine aS (aR ?_)
    refine oC (oM rfl (Conv.of rfl) rfl) ?_
    refine oC (oM rfl (Conv.of rfl) rfl) ?_
    refine oC (op_ix sl29 rfl rfl rfl (by omega) hx) ?_
    refine oC (oDR ty9 rfl rfl) ?_
    refine oC (oA rfl (Conv.of rfl) rfl) ?_
    refine oN ?_
    refine aT ?_
    repeat first | refine rS ?_ | refine rB ?_
    exact finP (.v rfl (Conv.of rfl)) rfl rfl
  · have hk : ws.length ≤ k := by have := of_decide_eq_false h; simp at this; omega
    rw [words_no hk]
    refine aW ?_
    refine aS (aR ?_)
    refine oC (oA rfl (Conv.of rfl) rfl) ?_
    refine oN ?_
    refine aT ?_
    repeat first | refine rS ?_ | refine rB ?_
    exact finP (.v rfl (Conv.of rfl)) rfl rfl
theorem l31At_ct (ws : List (List UInt8)) (k : Nat) : CtP Tryz.prog 58 [.v (ws.map bs), .v (k : Int)] (.v (numF (wordF ws k))) := by
  refine Ct.intro Tryz.func58 rfl rfl ?_
  refine aS (aR ?_)
  refine oC (oA rfl (Conv.of rfl) rfl) ?_
  refine oN ?_
  refine aS (aS (aR ?_))
  refine oC (oM rfl (Conv.of rfl) rfl) ?_
  refine oC (oM rfl (Conv.of rfl) rfl) ?_
  refine oC (oE sl29 rfl rfl) ?_
  refine oC (oLt rfl rfl rfl) ?_
  refine oN ?_
  refine aC rfl (fun h => ?_) (fun h => ?_)
  · have hk : k < ws.length := by have := of_decide_eq_true h; simp at this; omega
    have hx : (ws.map bs)[(k : Int).toNat]? = some (bs (wordF ws k)) := words_at hk
    refine aS (aR ?_)
    refine oC (oM rfl (Conv.of rfl) rfl) ?_
    refine oC (oM rfl (Conv.of rfl) rfl) ?_
    refine oC (op_ix sl29 rfl rfl rfl (by omega) hx) ?_
    refine oC (oDR ty9 rfl rfl) ?_
    refine oC (oL fb93 (.cons rfl (Conv.of rfl) (.nil _)) (l1Dec_ct _) (aK rfl rfl aK0) rfl rfl) ?_
    refine oC (oA rfl (Conv.of rfl) rfl) ?_
    refine oN ?_
    refine aT ?_
    repeat first | refine rS ?_ | refine rB ?_
    exact finP (.v rfl (Conv.of rfl)) rfl rfl
  · have hk : ws.length ≤ k := by have := of_decide_eq_false h; simp at this; omega
    rw [words_no hk]
    refine aW ?_
    refine aS (aR ?_)
    refine oC (oA rfl (Conv.of rfl) rfl) ?_
    refine oN ?_
    refine aT ?_
    repeat first | refine rS ?_ | refine rB ?_
    exact finP (.v rfl (Conv.of rfl)) rfl rfl
theorem l1Pay_ct (l : List UInt8) : CtP Tryz.prog 59 [.v (bs l)] (.v (payS l)) := by
  unfold payS
  refine Ct.intro Tryz.func59 rfl rfl ?_
  refine aS (aR ?_)
  refine oC (oX (o := 0) z61 rfl rfl) ?_
  refine oN ?_
  refine aS (aS (aR ?_))
  refine oC (oM rfl (Conv.of rfl) rfl) ?_
  refine oC (op_lens un9 rfl rfl) ?_
  refine oC (op_neq rfl rfl rfl) ?_
  refine oN ?_
  refine aC rfl (fun h => ?_) (fun h => ?_)
  · have hl : ¬ l.length = 3 := by simp at h; omega
    rw [if_neg hl]
    refine aS (aR ?_)
    refine oC (op_build (.nil _) z61 rfl pl61 rfl) ?_
    refine oC (op_st ty61 rfl rfl (Conv.of rfl) rfl) ?_
    refine oN ?_
    refine aT ?_
    repeat first | refine rS ?_ | refine rB ?_
    exact finP (.rc ty61 rfl rfl) rfl rfl
  · have hl : l.length = 3 := by simp at h; omega
    rw [if_pos hl]
    refine aW ?_
    refine aS (dS ?_)
    refine dC (oM rfl (Conv.of rfl) rfl) ?_
    refine dC (op_slsh un9 rfl rfl rfl ⟨by decide, by show 1 ≤ l.length; omega⟩) ?_
    refine dC (oL fb93 (.cons rfl (Conv.of rfl) (.nil _)) (l1Dec_ct _) (aK rfl rfl aK0) rfl rfl) ?_
    refine dC (oM rfl (Conv.of rfl) rfl) ?_
    refine dC (op_slslh un9 rfl rfl rfl rfl ⟨by decide, by decide, by show 2 ≤ l.length; omega⟩) ?_
    refine dC (oL fb93 (.cons rfl (Conv.of rfl) (.nil _)) (l1Dec_ct _) (aK rfl rfl aK0) rfl rfl) ?_
    refine dC (oM rfl (Conv.of rfl) rfl) ?_
    refine dC (op_slsl un9 rfl rfl rfl ⟨by decide, by show 2 ≤ l.length; omega⟩) ?_
    refine dC (oL fb93 (.cons rfl (Conv.of rfl) (.nil _)) (l1Dec_ct _) (aK rfl rfl aK0) rfl rfl) ?_
    refine dC (op_build (.cons f61_0 rfl (Conv.of rfl) (.cons f61_1 rfl (Conv.of rfl) (.cons f61_2 rfl (Conv.of rfl) (.nil _)))) z61 rfl pl61 rfl) ?_
    refine dC (op_st ty61 rfl rfl (Conv.of rfl) rfl) ?_
    refine dr_nil mixed rfl ?_
    refine aT ?_
    repeat first | refine rS ?_ | refine rB ?_
    exact finP (.rc ty61 rfl rfl) rfl rfl
end Go.Proofs.YtgfoeiieopnlaaaGreatDoor

/- Strings of the library, at separators of one byte. -/
set_option linter.unusedVariables false
set_option linter.unusedSimpArgs false
namespace Go.Proofs.YtgfoeiieopnlaaaGreatDoor
open Go Go.Wt
theorem ext_ixb : ExtB Tryz.prog 138 Extern.BytealgIndexByte.indexByte := ⟨Tryz.f138, by kernel_rfl, by kernel_rfl, by kernel_rfl, by kernel_rfl, by kernel_rfl⟩
theorem ext_cnt : ExtB Tryz.prog 119 Extern.BytealgCount.count := ⟨Tryz.f119, by kernel_rfl, by kernel_rfl, by kernel_rfl, by kernel_rfl, by kernel_rfl⟩
theorem slIndexByte_ct (l : List UInt8) (c : UInt8) : CtP Tryz.prog 104 [.v (bs l), .v c] (.v (Go.Lib.indexByte l c)) := by
  refine Ct.intro Tryz.func104 rfl rfl ?_
  refine aS (aR ?_)
  refine oC (oA rfl (Conv.of rfl) rfl) ?_
  refine oN ?_
  refine aS (aR ?_)
  refine oC (oM rfl (Conv.of rfl) rfl) ?_
  refine oC (oM rfl (Conv.of rfl) rfl) ?_
  refine oC (op_ixb ext_ixb rfl rfl rfl) ?_
  refine oC (oA rfl (Conv.of rfl) rfl) ?_
  refine oN ?_
  refine aT ?_
  repeat first | refine rS ?_ | refine rB ?_
  exact finP (.v rfl (Conv.of rfl)) rfl rfl
theorem slIndex_ct (l : List UInt8) (c : UInt8) : CtP Tryz.prog 69 [.v (bs l), .v (bs [c])] (.v (Go.Lib.indexByte l c)) := by
  refine Ct.intro Tryz.func69 rfl rfl ?_
  all_goals refine aS (aR ?_)
  all_goals refine oC (oA rfl (Conv.of rfl) rfl) ?_
  all_goals refine oN ?_
  all_goals refine aS (aR ?_)
  all_goals refine oC (oM rfl (Conv.of rfl) rfl) ?_
  all_goals refine oC (op_lens un9 rfl rfl) ?_
  all_goals refine oC (oA rfl (Conv.of rfl) rfl) ?_
  all_goals refine oN ?_
  refine aS (aB ?_)
  refine aST (s' := mkSt 143 [(0, .v (bs l)), (1, .v (bs [c])), (5, .v (1 : Int)), (16, .v (decide ([c] = l)))] []) ?_ ?_
  · all_goals refine aR ?_
    all_goals refine oC (oM rfl (Conv.of rfl) rfl) ?_
    all_goals refine oC (op_eql rfl rfl rfl) ?_
    all_goals refine oC (oM rfl (Conv.of rfl) rfl) ?_
    all_goals refine g_lit (t := 19) (b := false) rfl ?_
    all_goals refine oC (gN rfl rfl rfl (oM rfl (Conv.of rfl) rfl)) ?_
    all_goals refine oC (gN rfl rfl rfl (oM rfl (Conv.of rfl) rfl)) ?_
    all_goals refine oC (gN rfl rfl rfl (op_eqls rfl rfl rfl)) ?_
    all_goals refine oC (oQ rfl rfl rfl rfl) ?_
    all_goals refine oC (oA rfl (Conv.of rfl) rfl) ?_
    all_goals refine oN ?_
    all_goals exact Le.mk rfl (tle rfl (rfl) rfl (tle rfl (rfl) rfl (tle rfl (rfl) rfl (tle rfl (by rfl) rfl tln)))) oln noS
  refine aC rfl (fun h => ?_) (fun h => ?_)
  · have hl : [c] = l := of_decide_eq_true h
    subst hl
    all_goals refine aS (aR ?_)
    all_goals refine oC (oA rfl (Conv.of rfl) rfl) ?_
    all_goals refine oN ?_
    refine aT ?_
    repeat first | refine rS ?_ | refine rB ?_
    refine finP (.v rfl (Conv.of rfl)) rfl ?_
    simp [Go.Lib.indexByte]
    rfl
  · all_goals refine aS (aR ?_)
    all_goals refine oC (oM rfl (Conv.of rfl) rfl) ?_
    all_goals refine oC (op_eql rfl rfl rfl) ?_
    all_goals refine oC (oA rfl (Conv.of rfl) rfl) ?_
    all_goals refine oN ?_
    refine aC rfl (fun h2 => ?_) (fun h2 => absurd h2 (by decide))
    all_goals refine aS (aR ?_)
    all_goals refine oC (oM rfl (Conv.of rfl) rfl) ?_
    all_goals refine oC (oM rfl (Conv.of rfl) rfl) ?_
    all_goals refine oC (op_idxs un9 rfl rfl rfl (by decide) (show ([c] : List UInt8)[(0 : Int).toNat]? = some c from rfl)) ?_
    all_goals refine oC (oL fb104 (.cons rfl (Conv.of rfl) (.cons rfl (Conv.of rfl) (.nil _))) (slIndexByte_ct l c) (aK rfl rfl (aK rfl rfl aK0)) rfl rfl) ?_
    all_goals refine oC (oA rfl (Conv.of rfl) rfl) ?_
    all_goals refine oN ?_
    refine aT ?_
    repeat first | refine rS ?_ | refine rB ?_
    exact finP (.v rfl (Conv.of rfl)) rfl rfl
theorem index_ct (l : List UInt8) (c : UInt8) : CtP Tryz.prog 82 [.v (bs l), .v (bs [c])] (.v (Go.Lib.indexByte l c)) := by
  refine Ct.intro Tryz.func82 rfl rfl ?_
  refine aS (aR ?_)
  refine oC (oA rfl (Conv.of rfl) rfl) ?_
  refine oN ?_
  refine aS (aR ?_)
  refine oC (oM rfl (Conv.of rfl) rfl) ?_
  refine oC (oM rfl (Conv.of rfl) rfl) ?_
  refine oC (oL fb69 (.cons rfl (Conv.of rfl) (.cons rfl (Conv.of rfl) (.nil _))) (slIndex_ct l c) (aK rfl rfl (aK rfl rfl aK0)) rfl rfl) ?_
  refine oC (oA rfl (Conv.of rfl) rfl) ?_
  refine oN ?_
  refine aT ?_
  repeat first | refine rS ?_ | refine rB ?_
  exact finP (.v rfl (Conv.of rfl)) rfl rfl
theorem count_ct (l : List UInt8) (c : UInt8) : CtP Tryz.prog 81 [.v (bs l), .v (bs [c])] (.v ((Go.Lib.countByte l c : Nat) : Int)) := by
  refine Ct.intro Tryz.func81 rfl rfl ?_
  refine aS (aR ?_)
  refine oC (oA rfl (Conv.of rfl) rfl) ?_
  refine oN ?_
  refine aS (aS (aR ?_))
  refine oC (oM rfl (Conv.of rfl) rfl) ?_
  refine oC (op_lens un9 rfl rfl) ?_
  refine oC (op_eql rfl rfl rfl) ?_
  refine oN ?_
  refine aC rfl (fun h => by simp at h) (fun h => ?_)
  refine aW ?_
  refine aS (aS (aR ?_))
  refine oC (oM rfl (Conv.of rfl) rfl) ?_
  refine oC (op_lens un9 rfl rfl) ?_
  refine oC (op_eql rfl rfl rfl) ?_
  refine oN ?_
  refine aC rfl (fun h => ?_) (fun h => by simp at h)
  refine aS (aR ?_)
  refine oC (oM rfl (Conv.of rfl) rfl) ?_
  refine oC (oM rfl (Conv.of rfl) rfl) ?_
  refine oC (op_idxs un9 rfl rfl rfl (by decide) (show ([c] : List UInt8)[(0 : Int).toNat]? = some c from rfl)) ?_
  refine oC (op_cntb ext_cnt rfl rfl rfl) ?_
  refine oC (oA rfl (Conv.of rfl) rfl) ?_
  refine oN ?_
  refine aT ?_
  repeat first | refine rS ?_ | refine rB ?_
  exact finP (.v rfl (Conv.of rfl)) rfl rfl
theorem slCut_ct (l : List UInt8) (c : UInt8) (hl : l.length ≤ 1000000) : CtP Tryz.prog 36 [.v (bs l), .v (bs [c])] (.tup [.v (bs (cutB l c).1), .v (bs (cutB l c).2.1), .v (cutB l c).2.2]) := by
  have hlt := indexByte_lt l c
  unfold cutB
  refine Ct.intro Tryz.func36 rfl rfl ?_
  refine aS (aR ?_)
  refine oC (oA rfl (Conv.of rfl) rfl) ?_
  refine oC (oA rfl (Conv.of rfl) rfl) ?_
  refine oC (oA rfl (Conv.of rfl) rfl) ?_
  refine oN ?_
  refine aS (aS (aR ?_))
  refine oC (oM rfl (Conv.of rfl) rfl) ?_
  refine oC (oM rfl (Conv.of rfl) rfl) ?_
  refine oC (oL fb69 (.cons rfl (Conv.of rfl) (.cons rfl (Conv.of rfl) (.nil _))) (slIndex_ct l c) (aK rfl rfl (aK rfl rfl aK0)) rfl rfl) ?_
  refine oC (oA rfl (Conv.of rfl) rfl) ?_
  refine oN ?_
  refine aS (aR ?_)
  refine oC (oM rfl (Conv.of rfl) rfl) ?_
  refine oC (op_geq rfl rfl rfl) ?_
  refine oN ?_
  refine aC rfl (fun h => ?_) (fun h => ?_)
  · have h0 : 0 ≤ Go.Lib.indexByte l c := by simpa using h
    rw [if_pos h0]
    refine aS (dS ?_)
    refine dC (oM rfl (Conv.of rfl) rfl) ?_
    refine dC (oM rfl (Conv.of rfl) rfl) ?_
    refine dC (op_slsh un9 rfl rfl rfl (by omega)) ?_
    refine dC (oM rfl (Conv.of rfl) rfl) ?_
    refine dC (oM rfl (Conv.of rfl) rfl) ?_
    refine dC (oM rfl (Conv.of rfl) rfl) ?_
    refine dC (op_lens un9 rfl rfl) ?_
    refine dC (oP rfl rfl rfl (by (show _ ≤ Go.Lib.indexByte l c + 1 ∧ Go.Lib.indexByte l c + 1 < _; omega))) ?_
    refine dC (op_slsl un9 rfl rfl rfl (by show 0 ≤ Go.Lib.indexByte l c + 1 ∧ (Go.Lib.indexByte l c + 1).toNat ≤ l.length; omega)) ?_
    refine dC (oA rfl (Conv.of rfl) rfl) ?_
    refine dC (oA rfl (Conv.of rfl) rfl) ?_
    refine dC (oA rfl (Conv.of rfl) rfl) ?_
    refine dr_nil mixed rfl ?_
    refine aT ?_
    repeat first | refine rS ?_ | refine rB ?_
    exact ⟨_, _, resN (ol := []) (.cons (.v rfl (Conv.of rfl)) (.cons (.v rfl (Conv.of rfl)) (.cons (.v rfl (Conv.of rfl)) .nil))) rfl (fun o ho => absurd (show o ∈ ([] : List Nat) from ho) (by simp)) oln noS, rfl, rfl⟩
  · have h0 : ¬ 0 ≤ Go.Lib.indexByte l c := by simpa using h
    rw [if_neg h0]
    refine aW ?_
    refine aS (aR ?_)
    refine oC (oM rfl (Conv.of rfl) rfl) ?_
    refine oC (oA rfl (Conv.of rfl) rfl) ?_
    refine oC (oA rfl (Conv.of rfl) rfl) ?_
    refine oC (oA rfl (Conv.of rfl) rfl) ?_
    refine oN ?_
    refine aT ?_
    repeat first | refine rS ?_ | refine rB ?_
    exact ⟨_, _, resN (ol := []) (.cons (.v rfl (Conv.of rfl)) (.cons (.v rfl (Conv.of rfl)) (.cons (.v rfl (Conv.of rfl)) .nil))) rfl (fun o ho => absurd (show o ∈ ([] : List Nat) from ho) (by simp)) oln noS, rfl, rfl⟩
theorem cut_ct (l : List UInt8) (c : UInt8) (hl : l.length ≤ 1000000) : CtP Tryz.prog 22 [.v (bs l), .v (bs [c])] (.tup [.v (bs (cutB l c).1), .v (bs (cutB l c).2.1), .v (cutB l c).2.2]) := by
  refine Ct.intro Tryz.func22 rfl rfl ?_
  refine aS (aR ?_)
  refine oC (oA rfl (Conv.of rfl) rfl) ?_
  refine oC (oA rfl (Conv.of rfl) rfl) ?_
  refine oC (oA rfl (Conv.of rfl) rfl) ?_
  refine oN ?_
  refine aS (aR ?_)
  refine oC (oM rfl (Conv.of rfl) rfl) ?_
  refine oC (oM rfl (Conv.of rfl) rfl) ?_
  refine oC (oL fb36 (.cons rfl (Conv.of rfl) (.cons rfl (Conv.of rfl) (.nil _))) (slCut_ct l c hl) (aK rfl rfl (aK rfl rfl aK0)) rfl rfl) ?_
  refine oC (op_ext rfl rfl rfl) ?_
  refine oC (op_ext rfl rfl rfl) ?_
  refine oC (op_ext rfl rfl rfl) ?_
  refine oC (oA rfl (Conv.of rfl) rfl) ?_
  refine oC (oA rfl (Conv.of rfl) rfl) ?_
  refine oC (oA rfl (Conv.of rfl) rfl) ?_
  refine oN ?_
  refine aT ?_
  repeat first | refine rS ?_ | refine rB ?_
  exact ⟨_, _, resN (ol := []) (.cons (.v rfl (Conv.of rfl)) (.cons (.v rfl (Conv.of rfl)) (.cons (.v rfl (Conv.of rfl)) .nil))) rfl (fun o ho => absurd (show o ∈ ([] : List Nat) from ho) (by simp)) oln noS, rfl, rfl⟩
end Go.Proofs.YtgfoeiieopnlaaaGreatDoor

/- Strings in parts. -/
set_option linter.unusedVariables false
set_option linter.unusedSimpArgs false
namespace Go.Proofs.YtgfoeiieopnlaaaGreatDoor
open Go Go.Wt
theorem rep_set {done : List (List UInt8)} {k m : Nat} {w : List UInt8} (hd : done.length = k) (hm : 0 < m) : (done.map bs ++ List.replicate m (bs [])).set k (bs w) = (done ++ [w]).map bs ++ List.replicate (m - 1) (bs []) := by
  obtain ⟨m, rfl⟩ : ∃ q, m = q + 1 := ⟨m - 1, by omega⟩
  rw [List.replicate_succ, List.set_append_right _ _ (by simp; omega)]
  simp [hd]
set_option maxHeartbeats 2000000 in
theorem genSplit_ct (l : List UInt8) (c : UInt8) (hl : l.length ≤ 1000000) : CtP Tryz.prog 51 [.v (bs l), .v (bs [c]), .v (0 : Int), .v (-1 : Int)] (.v ((splitF c l).map bs)) := by
  have hlen := splitF_len c l
  have hcl := count_le l c
  have hcount := count_ct l c
  generalize hN : Go.Lib.countByte l c = N at hlen hcl hcount
  refine Ct.intro Tryz.func51 rfl rfl ?_
  refine aS (aR ?_)
  refine oC (oA rfl (Conv.of rfl) rfl) ?_
  refine oN ?_
  refine aS (aS (aR ?_))
  refine oC (oM rfl (Conv.of rfl) rfl) ?_
  refine oC (op_eql rfl rfl rfl) ?_
  refine oN ?_
  refine aC rfl (fun h => absurd h (by decide)) (fun h => ?_)
  refine aW ?_
  refine aS (aS (aR ?_))
  refine oC (oM rfl (Conv.of rfl) rfl) ?_
  refine oC (op_eqls rfl rfl rfl) ?_
  refine oN ?_
  refine aC rfl (fun h => by simp at h) (fun h => ?_)
  refine aW ?_
  refine aS (aS (aR ?_))
  refine oC (oM rfl (Conv.of rfl) rfl) ?_
  refine oC (oLt rfl rfl rfl) ?_
  refine oN ?_
  refine awp_to (s' := mkSt 66 [(0, .v (bs l)), (1, .v (bs [c])), (2, .v (0 : Int)), (3, .v ((N : Int) + 1))] []) ?_ ?_
  · refine aC rfl (fun h => ?_) (fun h => absurd h (by decide))
    refine aR ?_
    refine oC (oM rfl (Conv.of rfl) rfl) ?_
    refine oC (oM rfl (Conv.of rfl) rfl) ?_
    refine oC (oL fb81 (.cons rfl (Conv.of rfl) (.cons rfl (Conv.of rfl) (.nil _))) (hcount) (aK rfl rfl (aK rfl rfl aK0)) rfl rfl) ?_
    refine oC (oP rfl rfl rfl (by omega)) ?_
    refine oC (oA rfl (Conv.of rfl) rfl) ?_
    refine oN ?_
    all_goals exact Le.mk rfl (tle rfl (rfl) rfl (tle rfl (rfl) rfl (tle rfl (rfl) rfl (tle rfl (rfl) rfl tln)))) oln noS
  refine aST (s' := mkSt 66 [(0, .v (bs l)), (1, .v (bs [c])), (2, .v (0 : Int)), (3, .v ((N : Int) + 1))] []) ?_ ?_
  · refine aR ?_
    refine oC (oM rfl (Conv.of rfl) rfl) ?_
    refine oC (oM rfl (Conv.of rfl) rfl) ?_
    refine oC (op_lens un9 rfl rfl) ?_
    refine oC (oP rfl rfl rfl (by omega)) ?_
    refine oC (op_min rfl rfl rfl) ?_
    refine oC (oA rfl (Conv.of rfl) rfl) ?_
    refine oN ?_
    all_goals exact Le.mk rfl (tle rfl (rfl) rfl (tle rfl (rfl) rfl (tle rfl (rfl) rfl (tle rfl (by (show AV.v _ = AV.v _; congr 1; omega)) rfl tln)))) oln noS
  refine aS (aR ?_)
  refine oC (oM rfl (Conv.of rfl) rfl) ?_
  refine oC (op_mkn (o := 5) sl29 z9 rfl (by omega) (by omega) (by omega) rfl rfl) ?_
  refine oC (oA rfl (Conv.of rfl) rfl) ?_
  refine oN ?_
  refine aS (aR ?_)
  refine oC (oM rfl (Conv.of rfl) rfl) ?_
  refine oC (op_sub rfl rfl rfl (by omega)) ?_
  refine oC (oA rfl (Conv.of rfl) rfl) ?_
  refine oN ?_
  refine aS (aR ?_)
  refine oC (oA rfl (Conv.of rfl) rfl) ?_
  refine oN ?_
  refine awp_seq_ex (ι := List (List UInt8) × List UInt8) (fun i => mkSt 66 [(0, .v (bs i.2)), (9, .v (NRef.ref 5)), (10, .v (N : Int))] [(5, .arr (i.1.map bs ++ List.replicate 1 (bs [])))]) (fun i => splitF c l = i.1 ++ [i.2] ∧ i.1.length = N) ?_ ?_
  · refine aB ?_
    refine awp_loop' (fun n_ s => ∃ (k : Nat), ∃ (done : List (List UInt8)), ∃ (rest : List UInt8), ∃ (hk : n_ + k = N), ∃ (hd : done.length = k), ∃ (hs : splitF c l = done ++ splitF c rest), ∃ (hc : Go.Lib.countByte rest c + k = N), ∃ (hr : rest.length ≤ l.length), s = mkSt 66 [(0, .v (bs rest)), (1, .v (bs [c])), (2, .v (0 : Int)), (3, .v (N : Int)), (9, .v (NRef.ref 5)), (10, .v (k : Int))] [(5, .arr (done.map bs ++ List.replicate (N + 1 - k) (bs [])))]) (N) ⟨0, [], l, by omega, rfl, rfl, by omega, Nat.le_refl _, rfl⟩ (Le.mk rfl (tle rfl (rfl) rfl (tle rfl (rfl) rfl (tle rfl (rfl) rfl (tle rfl (by (show AV.v _ = AV.v _; congr 1; omega)) rfl (tlb rfl rfl rfl (tle rfl (rfl) rfl tln)))))) (olk (by rfl) (by exact bA) oln) noS) ?_
    rintro n_ s ⟨k, done, rest, hk, hd, hs, hc, hr, rfl⟩
    refine aS (aS (aR ?_))
    refine oC (oM rfl (Conv.of rfl) rfl) ?_
    refine oC (oM rfl (Conv.of rfl) rfl) ?_
    refine oC (oLt rfl rfl rfl) ?_
    refine oN ?_
    refine aC rfl (fun h => ?_) (fun h => ?_)
    · have hlt : k < N := by
        have h0 : (k : Int) < (N : Int) := of_decide_eq_true h
        omega
      have hp : 0 ≤ Go.Lib.indexByte rest c := by
        rcases Int.lt_or_le (Go.Lib.indexByte rest c) 0 with q | q
        · have := (indexByte_neg q).1; omega
        · exact q
      obtain ⟨hsp, hcp⟩ := indexByte_pos hp
      have hilt := indexByte_lt rest c
      have hix := index_ct rest c
      generalize Go.Lib.indexByte rest c = m at hp hsp hcp hilt hix
      have hxi : (done.map bs ++ List.replicate (N + 1 - k) (bs []))[(k : Int).toNat]? = some (bs []) := by
        rw [List.getElem?_append_right (by simp; omega), List.getElem?_replicate, if_pos (by simp; omega)]
      have hm0 : m + 0 = m := by omega
      have hset : (done.map bs ++ List.replicate (N + 1 - k) (bs [])).set (k : Int).toNat (bs (rest.take (m + 0).toNat)) = (done ++ [rest.take m.toNat]).map bs ++ List.replicate (N + 1 - (k + 1)) (bs []) := by
        rw [hm0, Int.toNat_natCast, rep_set hd (by omega)]
        rw [show N + 1 - k - 1 = N + 1 - (k + 1) by omega]
      refine aW ?_
      refine aB ?_
      refine aS (aR ?_)
      refine oC (oM rfl (Conv.of rfl) rfl) ?_
      refine oC (oM rfl (Conv.of rfl) rfl) ?_
      refine oC (oL fb82 (.cons rfl (Conv.of rfl) (.cons rfl (Conv.of rfl) (.nil _))) (hix) (aK rfl rfl (aK rfl rfl aK0)) rfl rfl) ?_
      refine oC (oA rfl (Conv.of rfl) rfl) ?_
      refine oN ?_
      refine aS (aS (aR ?_))
      refine oC (oM rfl (Conv.of rfl) rfl) ?_
      refine oC (oLt rfl rfl rfl) ?_
      refine oN ?_
      refine aC rfl (fun h2 => absurd (of_decide_eq_true h2) (by omega)) (fun h2 => ?_)
      refine aW ?_
      refine aS (aR ?_)
      refine oC (oM rfl (Conv.of rfl) rfl) ?_
      refine oC (oM rfl (Conv.of rfl) rfl) ?_
      refine oC (oM rfl (Conv.of rfl) rfl) ?_
      refine oC (oM rfl (Conv.of rfl) rfl) ?_
      refine oC (oM rfl (Conv.of rfl) rfl) ?_
      refine oC (oP rfl rfl rfl (by omega)) ?_
      refine oC (op_slsh un9 rfl rfl rfl (by rw [hm0]; omega)) ?_
      refine oC (op_ixA sl29 rfl rfl rfl rfl ⟨by omega, by simp; omega⟩) ?_
      refine oC (op_ste ty9 rfl rfl (Conv.of rfl) rfl hxi) ?_
      refine oN ?_
      refine aS (aR ?_)
      refine oC (oM rfl (Conv.of rfl) rfl) ?_
      refine oC (oM rfl (Conv.of rfl) rfl) ?_
      refine oC (oM rfl (Conv.of rfl) rfl) ?_
      refine oC (op_lens un9 rfl rfl) ?_
      refine oC (oP rfl rfl rfl (by (show _ ≤ m + 1 ∧ m + 1 < _; omega))) ?_
      refine oC (op_slsl un9 rfl rfl rfl (by show 0 ≤ m + 1 ∧ (m + 1).toNat ≤ rest.length; omega)) ?_
      refine oC (oA rfl (Conv.of rfl) rfl) ?_
      refine oN ?_
      refine aR ?_
      refine oC (oM rfl (Conv.of rfl) rfl) ?_
      refine oC (oP rfl rfl rfl (by omega)) ?_
      refine oC (oA rfl (Conv.of rfl) rfl) ?_
      refine oN ?_
      have hdr : rest.drop (m + 1).toNat = rest.drop (m.toNat + 1) := by congr 1; omega
      repeat first | refine nS ?_ | refine nB ?_
      exact ⟨n_ - 1, _, by omega, ⟨k + 1, done ++ [rest.take m.toNat], rest.drop (m + 1).toNat, by omega, by simp; omega, (by rw [hs, hsp, hdr]; simp), (by rw [hdr]; omega), (by simp; omega), rfl⟩, Le.mk rfl (tle rfl (rfl) rfl (tle rfl (rfl) rfl (tle rfl (rfl) rfl (tle rfl (by rfl) rfl (tlb rfl rfl rfl (tle rfl (rfl) rfl tln)))))) (olk (by (first | rfl | exact congrArg Wt.Obj.arr hset)) (by exact bA) oln) noS⟩
    · refine aE ?_
      repeat refine ex_seq ?_
      refine eB ?_
      have hkN : k = N := by
        have h0 : ¬ ((k : Int) < (N : Int)) := of_decide_eq_false h
        omega
      have hneg : Go.Lib.indexByte rest c < 0 := by
        rcases Int.lt_or_le (Go.Lib.indexByte rest c) 0 with q | q
        · exact q
        · have := (indexByte_pos q).2; omega
      have hsr := (indexByte_neg hneg).2.1
      subst hkN
      exact nS ⟨(done, rest), ⟨by rw [hs, hsr], hd⟩, Le.mk rfl (tle rfl (rfl) rfl (tlb rfl rfl rfl (tle rfl (rfl) rfl tln))) (olk (by (rw [show k + 1 - k = 1 by omega]; rfl)) (by exact bA) oln) noS⟩
  · rintro ⟨done, rest⟩ ⟨hs, hd⟩
    simp only at hs hd ⊢
    have hxi : (done.map bs ++ List.replicate 1 (bs []))[(N : Int).toNat]? = some (bs []) := by
      rw [List.getElem?_append_right (by simp; omega), List.getElem?_replicate, if_pos (by simp; omega)]
    have hset : (done.map bs ++ List.replicate 1 (bs [])).set (N : Int).toNat (bs rest) = (splitF c l).map bs := by
      rw [Int.toNat_natCast, rep_set hd (by omega), hs]
      simp
    refine aS (aR ?_)
    refine oC (oM rfl (Conv.of rfl) rfl) ?_
    refine oC (oM rfl (Conv.of rfl) rfl) ?_
    refine oC (oM rfl (Conv.of rfl) rfl) ?_
    refine oC (op_ixA sl29 rfl rfl rfl rfl ⟨by omega, by simp; omega⟩) ?_
    refine oC (op_ste ty9 rfl rfl (Conv.of rfl) rfl hxi) ?_
    refine oN ?_
    refine awp_le (Le.trans (b := mkSt 66 [(9, .v (NRef.ref 5)), (10, .v (N : Int))] [(5, .arr ((splitF c l).map bs))]) (Le.mk rfl (tlb rfl rfl rfl (tle rfl (rfl) rfl tln)) (olk (by (exact congrArg Wt.Obj.arr hset)) (by exact bA) oln) noS) (Le.frz (t := 9) (o := 5) (by show _ ≤ 4611686018427387904; simp; omega) noS rfl rfl obl0)) ?_
    refine aS (aR ?_)
    refine oC (oM rfl (Conv.of rfl) rfl) ?_
    refine oC (oM rfl (Conv.of rfl) rfl) ?_
    refine oC (oP rfl rfl rfl (by omega)) ?_
    refine oC (op_slh sl29 rfl rfl rfl (by simp; omega)) ?_
    refine oC (oA rfl (Conv.of rfl) rfl) ?_
    refine oN ?_
    refine aT ?_
    repeat first | refine rS ?_ | refine rB ?_
    refine finP (.v rfl (Conv.of rfl)) rfl ?_
    show AV.v (((splitF c l).map bs).take ((N : Int) + 1).toNat) = _
    rw [List.take_of_length_le (by simp; omega)]
theorem split_ct (l : List UInt8) (c : UInt8) (hl : l.length ≤ 1000000) : CtP Tryz.prog 25 [.v (bs l), .v (bs [c])] (.v ((splitF c l).map bs)) := by
  refine Ct.intro Tryz.func25 rfl rfl ?_
  refine aS (aR ?_)
  refine oC (oA rfl (Conv.of rfl) rfl) ?_
  refine oN ?_
  refine aS (aR ?_)
  refine oC (oM rfl (Conv.of rfl) rfl) ?_
  refine oC (oM rfl (Conv.of rfl) rfl) ?_
  refine oC (oL fb51 (.cons rfl (Conv.of rfl) (.cons rfl (Conv.of rfl) (.cons rfl (Conv.of rfl) (.cons rfl (Conv.of rfl) (.nil _))))) (genSplit_ct l c hl) (aK rfl rfl (aK rfl rfl (aK rfl rfl (aK rfl rfl aK0)))) rfl rfl) ?_
  refine oC (oA rfl (Conv.of rfl) rfl) ?_
  refine oN ?_
  refine aT ?_
  repeat first | refine rS ?_ | refine rB ?_
  exact finP (.v rfl (Conv.of rfl)) rfl rfl
end Go.Proofs.YtgfoeiieopnlaaaGreatDoor

/- The reference: strings in parts. -/
set_option linter.unusedVariables false
set_option linter.unusedSimpArgs false
namespace Go.Proofs.YtgfoeiieopnlaaaGreatDoor
open Go Go.Wt
set_option maxHeartbeats 2000000 in
theorem l1Cut_ct (l : List UInt8) (c : UInt8) (hl : l.length ≤ 1000000) : CtP Tryz.prog 29 [.v (bs l), .v c] (.v ((splitF c l).map bs)) := by
  have hall := cut_all c l
  refine Ct.intro Tryz.func29 rfl rfl ?_
  refine aS (aR ?_)
  refine oC (oA rfl (Conv.of rfl) rfl) ?_
  refine oN ?_
  refine aS (aR ?_)
  refine oC (op_bsa (o := 2) sl29 z9 (.cons rfl (Conv.of rfl) (.nil _)) rfl (by decide) rfl rfl) ?_
  refine oC (oA rfl (Conv.nr) rfl) ?_
  refine oN ?_
  refine aS (aS (aR ?_))
  refine oC (oA rfl (Conv.of rfl) rfl) ?_
  refine oN ?_
  refine awp_to (s' := mkSt 40 [(5, .v (NRef.ref 2))] [(2, .arr ((splitF c l).map bs))]) ?_ ?_
  · refine aB ?_
    refine awp_loop' (fun n_ s => ∃ (k : Nat), ∃ (hk : n_ + k = l.length), s = mkSt 40 [(0, .v (bs l)), (1, .v c), (5, .v (NRef.ref 2)), (6, .v (k : Int))] [(2, .arr (((l.take k).foldl (cutStep c) [[]]).map bs))]) (l.length) ⟨0, by omega, rfl⟩ (Le.mk rfl (tle rfl (rfl) rfl (tle rfl (rfl) rfl (tlb rfl rfl rfl (tle rfl (rfl) rfl tln)))) (olk (by rfl) (by exact bA) oln) noS) ?_
    rintro n_ s ⟨k, hk, rfl⟩
    obtain ⟨h1, h2, h3⟩ := cut_bd c l k
    refine aS (aS (aR ?_))
    refine oC (oM rfl (Conv.of rfl) rfl) ?_
    refine oC (oM rfl (Conv.of rfl) rfl) ?_
    refine oC (op_lens un9 rfl rfl) ?_
    refine oC (oLt rfl rfl rfl) ?_
    refine oN ?_
    refine aC rfl (fun h => ?_) (fun h => ?_)
    · have hlt : k < l.length := by
        have h0 : (k : Int) < (l.length : Int) := of_decide_eq_true h
        omega
      have hx : l[k]? = some l[k] := List.getElem?_eq_getElem hlt
      generalize l[k] = b at hx
      have hx' : l[(k : Int).toNat]? = some b := hx
      have hstep := foldl_at (cutStep c) [[]] hx
      generalize hout : (l.take k).foldl (cutStep c) [[]] = out at h1 h2 h3 hstep ⊢
      refine aW ?_
      refine aS (aB ?_)
      refine aS (aR ?_)
      refine oC (oM rfl (Conv.of rfl) rfl) ?_
      refine oC (oM rfl (Conv.of rfl) rfl) ?_
      refine oC (op_idxs un9 rfl rfl rfl (by omega) hx') ?_
      refine oC (oM rfl (Conv.of rfl) rfl) ?_
      refine oC (op_eql8 rfl rfl rfl) ?_
      refine oN ?_
      refine awp_toB (s' := mkSt 40 [(5, .v (NRef.ref 2)), (0, .v (bs l)), (1, .v c), (6, .v (k : Int))] [(2, .arr ((cutStep c out b).map bs))]) ?_ ?_
      · refine aC rfl (fun h4 => ?_) (fun h4 => ?_)
        · have hbc : b = c := of_decide_eq_true h4
          have hset : out.map bs ++ [bs []] = (cutStep c out b).map bs := by unfold cutStep; rw [if_pos hbc]; simp
          refine aR ?_
          refine oC (oM rfl (Conv.of rfl) rfl) ?_
          refine oC (op_bsl sl29 z9 (.cons rfl (Conv.of rfl) (.nil _)) rfl (by decide) rfl) ?_
          refine oC (op_apA (o' := 3) sl29 z9 ul29 rfl rfl rfl rfl (by simp) (by (simp; omega)) (by (simp; omega)) rfl) ?_
          refine oC (oA rfl (Conv.of rfl) rfl) ?_
          refine oN ?_
          repeat first | refine nS ?_ | refine nB ?_
          exact Le.trans (Le.mk rfl (tlb rfl rfl rfl (tle rfl (rfl) rfl (tle rfl (rfl) rfl (tle rfl (rfl) rfl tln)))) (olk (by (exact congrArg Wt.Obj.arr hset)) (by exact bA) oln) noS) (Le.ren (o := 3) (o' := 2) (t := 5) rfl noS rfl rfl rfl obl0 (fun x _ => Plain.refs_eq x))
        · have hbc : ¬ b = c := of_decide_eq_false h4
          have hlast : out[out.length - 1]? = some (out[out.length - 1]'(by omega)) := List.getElem?_eq_getElem (by omega)
          have hgd : out.getD (out.length - 1) [] = out[out.length - 1]'(by omega) := by rw [List.getD_eq_getElem?_getD, hlast]; rfl
          have hll := h3 _ (List.mem_of_getElem? hlast)
          generalize out[out.length - 1]'(by omega) = w at hlast hgd hll
          have hix : (out.map bs)[(((out.map bs).length : Nat) : Int) - 1 |>.toNat]? = some (bs w) := by
            rw [List.length_map, show (((out.length : Nat) : Int) - 1).toNat = out.length - 1 by omega, List.getElem?_map, hlast]; rfl
          have hset : (out.map bs).set ((((out.map bs).length : Nat) : Int) - 1).toNat (bs (w ++ [b])) = (cutStep c out b).map bs := by
            unfold cutStep
            rw [if_neg hbc, hgd, List.length_map, show (((out.length : Nat) : Int) - 1).toNat = out.length - 1 by omega, List.map_set]
          refine dS ?_
          refine dC (oM rfl (Conv.of rfl) rfl) ?_
          refine dC (oM rfl (Conv.of rfl) rfl) ?_
          refine dC (oEA sl29 rfl rfl rfl) ?_
          refine dC (op_sub rfl rfl rfl (by (simp; omega))) ?_
          refine dC (oM rfl (Conv.of rfl) rfl) ?_
          refine dC (oM rfl (Conv.of rfl) rfl) ?_
          refine dC (oEA sl29 rfl rfl rfl) ?_
          refine dC (op_sub rfl rfl rfl (by (simp; omega))) ?_
          refine dC (op_ixA sl29 rfl rfl rfl rfl ⟨by simp; omega, by simp; omega⟩) ?_
          refine dC (op_lde ty9 rfl rfl hix rfl) ?_
          refine dC (oM rfl (Conv.of rfl) rfl) ?_
          refine dC (oM rfl (Conv.of rfl) rfl) ?_
          refine dC (op_idxs un9 rfl rfl rfl (by omega) hx') ?_
          refine dC (op_bsl sl22 z5 (.cons rfl (Conv.of rfl) (.nil _)) rfl (by decide) rfl) ?_
          refine dC (op_cvbs ul22 uy5 un9 rfl rfl) ?_
          refine dC (op_adds rfl rfl rfl (by (simp; omega))) ?_
          refine dC (op_ixA sl29 rfl rfl rfl rfl ⟨by simp; omega, by simp; omega⟩) ?_
          refine dC (op_ste ty9 rfl rfl (Conv.of rfl) rfl hix) ?_
          refine dr_nil mixed rfl ?_
          all_goals exact Le.mk rfl (tlb rfl rfl rfl (tle rfl (rfl) rfl (tle rfl (rfl) rfl (tle rfl (rfl) rfl tln)))) (olk (by (exact congrArg Wt.Obj.arr hset)) (by exact bA) oln) noS
      have hset : (cutStep c out b).map bs = ((l.take (k + 1)).foldl (cutStep c) [[]]).map bs := by rw [hstep]
      refine aR ?_
      refine oC (oM rfl (Conv.of rfl) rfl) ?_
      refine oC (oP rfl rfl rfl (by omega)) ?_
      refine oC (oA rfl (Conv.of rfl) rfl) ?_
      refine oN ?_
      repeat first | refine nS ?_ | refine nB ?_
      exact ⟨n_ - 1, _, by omega, ⟨k + 1, by omega, rfl⟩, Le.mk rfl (tle rfl (rfl) rfl (tle rfl (rfl) rfl (tlb rfl rfl rfl (tle rfl (rfl) rfl tln)))) (olk (by (first | rfl | exact congrArg Wt.Obj.arr hset)) (by exact bA) oln) noS⟩
    · refine aE ?_
      repeat refine ex_seq ?_
      refine eB ?_
      have hk2 : l.length ≤ k := by
        have h0 : ¬ ((k : Int) < (l.length : Int)) := of_decide_eq_false h
        omega
      have hset : ((l.take k).foldl (cutStep c) [[]]).map bs = (splitF c l).map bs := by rw [take_end hk2, hall]
      all_goals exact Le.mk rfl (tlb rfl rfl rfl tln) (olk (by (exact congrArg Wt.Obj.arr hset)) (by exact bA) oln) noS
  have hlen := splitF_len c l
  have hcl := count_le l c
  refine awp_le (Le.frz (t := 5) (o := 2) (by show _ ≤ 4611686018427387904; simp; omega) noS rfl rfl obl0) ?_
  refine aS (aR ?_)
  refine oC (oM rfl (Conv.of rfl) rfl) ?_
  refine oC (oA rfl (Conv.of rfl) rfl) ?_
  refine oN ?_
  refine aT ?_
  repeat first | refine rS ?_ | refine rB ?_
  exact finP (.v rfl (Conv.of rfl)) rfl rfl
end Go.Proofs.YtgfoeiieopnlaaaGreatDoor

/- Numbers below 100, written. -/
set_option linter.unusedVariables false
set_option linter.unusedSimpArgs false
namespace Go.Proofs.YtgfoeiieopnlaaaGreatDoor
open Go Go.Wt
theorem l6Dec1_ct (n : Int) (hn : 0 ≤ n ∧ n < 10) : CtP Tryz.prog 32 [.v n] (.v (bs [dg n])) := by
  refine Ct.intro Tryz.func32 rfl rfl ?_
  refine aS (aR ?_)
  refine oC (oA rfl (Conv.of rfl) rfl) ?_
  refine oN ?_
  refine aS (aS (aR ?_))
  refine oC (oM rfl (Conv.of rfl) rfl) ?_
  refine oC (oLt rfl rfl rfl) ?_
  refine oN ?_
  refine aC rfl (fun h => absurd (of_decide_eq_true h) (by omega)) (fun h => ?_)
  refine aW ?_
  refine aS (aS (aR ?_))
  refine oC (oM rfl (Conv.of rfl) rfl) ?_
  refine oC (oLt rfl rfl rfl) ?_
  refine oN ?_
  refine aC rfl (fun h => absurd (of_decide_eq_true h) (by omega)) (fun h => ?_)
  refine aW ?_
  refine aS (aS (aR ?_))
  refine oC (oM rfl (Conv.of rfl) rfl) ?_
  refine oC (oLt rfl rfl rfl) ?_
  refine oN ?_
  refine aC rfl (fun h => ?_) (fun h => absurd (of_decide_eq_false h) (by omega))
  refine aS (aR ?_)
  refine oC (oM rfl (Conv.of rfl) rfl) ?_
  refine oC (oP rfl rfl rfl (by omega)) ?_
  refine oC (op_cvi8 rfl rfl us3 uy5 (by omega)) ?_
  refine oC (op_bsl sl22 z5 (.cons rfl (Conv.of rfl) (.nil _)) rfl (by decide) rfl) ?_
  refine oC (op_cvbs ul22 uy5 un9 rfl rfl) ?_
  refine oC (oA rfl (Conv.of rfl) rfl) ?_
  refine oN ?_
  refine aT ?_
  repeat first | refine rS ?_ | refine rB ?_
  exact finP (.v rfl (Conv.of rfl)) rfl rfl
theorem l6Dec_ct (n : Int) (hn : 0 ≤ n ∧ n < 100) : CtP Tryz.prog 32 [.v n] (.v (bs (decI n))) := by
  unfold decI
  by_cases h10 : n < 10
  · rw [if_pos h10]
    exact l6Dec1_ct n ⟨hn.1, h10⟩
  rw [if_neg h10]
  have q1 : 0 ≤ n.tdiv 10 ∧ n.tdiv 10 < 10 := by rw [Int.tdiv_eq_ediv_of_nonneg hn.1]; omega
  have q2 := tmod_bd hn.1 (show (0 : Int) < 10 by omega)
  have w1 : IntKind.i64.wrap (n.tdiv 10) = n.tdiv 10 := wrap_in (by omega)
  have k1 : CtP Tryz.prog 32 [.v (IntKind.i64.wrap (n.tdiv 10))] (.v (bs [dg (n.tdiv 10)])) := by rw [w1]; exact l6Dec1_ct _ q1
  refine Ct.intro Tryz.func32 rfl rfl ?_
  refine aS (aR ?_)
  refine oC (oA rfl (Conv.of rfl) rfl) ?_
  refine oN ?_
  refine aS (aS (aR ?_))
  refine oC (oM rfl (Conv.of rfl) rfl) ?_
  refine oC (oLt rfl rfl rfl) ?_
  refine oN ?_
  refine aC rfl (fun h => absurd (of_decide_eq_true h) (by omega)) (fun h => ?_)
  refine aW ?_
  refine aS (aS (aR ?_))
  refine oC (oM rfl (Conv.of rfl) rfl) ?_
  refine oC (oLt rfl rfl rfl) ?_
  refine oN ?_
  refine aC rfl (fun h => absurd (of_decide_eq_true h) (by omega)) (fun h => ?_)
  refine aW ?_
  refine aS (aS (aR ?_))
  refine oC (oM rfl (Conv.of rfl) rfl) ?_
  refine oC (oLt rfl rfl rfl) ?_
  refine oN ?_
  refine aC rfl (fun h => absurd (of_decide_eq_true h) h10) (fun h => ?_)
  refine aW ?_
  refine aS (dS ?_)
  refine dC (oM rfl (Conv.of rfl) rfl) ?_
  refine dC (op_quo rfl rfl rfl (by decide)) ?_
  refine dC (oL fb32 (.cons rfl (Conv.of rfl) (.nil _)) (k1) (aK rfl rfl aK0) rfl rfl) ?_
  refine dC (oM rfl (Conv.of rfl) rfl) ?_
  refine dC (op_rem rfl rfl rfl (by decide)) ?_
  refine dC (oP rfl rfl rfl (by omega)) ?_
  refine dC (op_cvi8 rfl rfl us3 uy5 (by omega)) ?_
  refine dC (op_bsl sl22 z5 (.cons rfl (Conv.of rfl) (.nil _)) rfl (by decide) rfl) ?_
  refine dC (op_cvbs ul22 uy5 un9 rfl rfl) ?_
  refine dC (op_adds rfl rfl rfl (by (simp))) ?_
  refine dC (oA rfl (Conv.of rfl) rfl) ?_
  refine dr_nil mixed rfl ?_
  refine aT ?_
  repeat first | refine rS ?_ | refine rB ?_
  exact finP (.v rfl (Conv.of rfl)) rfl rfl
theorem small_ct (m : Nat) (hm : m < 100) : CtP Tryz.prog 146 [.v (m : Int)] (.v (bs (decI (m : Int)))) := by
  refine Ct.intro Tryz.func146 rfl rfl ?_
  refine aS (aR ?_)
  refine oC (oA rfl (Conv.of rfl) rfl) ?_
  refine oN ?_
  refine aS (aS (aR ?_))
  refine oC (oM rfl (Conv.of rfl) rfl) ?_
  refine oC (oLt rfl rfl rfl) ?_
  refine oN ?_
  refine aC rfl (fun h => ?_) (fun h => ?_)
  · have hm10 : m < 10 := by
      have h0 : (m : Int) < 10 := of_decide_eq_true h
      omega
    refine aS (aR ?_)
    refine oC (oM rfl (Conv.of rfl) rfl) ?_
    refine oC (oM rfl (Conv.of rfl) rfl) ?_
    refine oC (oP rfl rfl rfl (by omega)) ?_
    refine oC (op_slslh un9 rfl rfl rfl rfl ⟨by omega, by omega, by show ((m : Int) + 1).toNat ≤ 36; omega⟩) ?_
    refine oC (oA rfl (Conv.of rfl) rfl) ?_
    refine oN ?_
    refine aT ?_
    repeat first | refine rS ?_ | refine rB ?_
    refine finP (.v rfl (Conv.of rfl)) rfl ?_
    show AV.v (bs _) = AV.v (bs _)
    congr 2
    clear h hm
    revert hm10
    revert m
    decide +kernel
  · refine aW ?_
    refine aS (aR ?_)
    refine oC (oM rfl (Conv.of rfl) rfl) ?_
    refine oC (op_mul rfl rfl rfl (by omega)) ?_
    refine oC (oM rfl (Conv.of rfl) rfl) ?_
    refine oC (op_mul rfl rfl rfl (by omega)) ?_
    refine oC (oP rfl rfl rfl (by omega)) ?_
    refine oC (op_slslh un9 rfl rfl rfl rfl ⟨by omega, by omega, by show ((m : Int) * 2 + 2).toNat ≤ 200; omega⟩) ?_
    refine oC (oA rfl (Conv.of rfl) rfl) ?_
    refine oN ?_
    refine aT ?_
    repeat first | refine rS ?_ | refine rB ?_
    refine finP (.v rfl (Conv.of rfl)) rfl ?_
    have hm10 : 10 ≤ m := by
      have h0 : ¬ (m : Int) < 10 := of_decide_eq_false h
      omega
    show AV.v (bs _) = AV.v (bs _)
    congr 2
    clear h
    revert hm10
    revert hm
    revert m
    decide +kernel
theorem formatInt_ct (m : Nat) (hm : m < 100) : CtP Tryz.prog 116 [.v (m : Int), .v (10 : Int)] (.v (bs (decI (m : Int)))) := by
  refine Ct.intro Tryz.func116 rfl rfl ?_
  all_goals refine aS (aR ?_)
  all_goals refine oC (oA rfl (Conv.of rfl) rfl) ?_
  all_goals refine oN ?_
  all_goals refine aS (aS (aR ?_))
  all_goals refine oC (oM rfl (Conv.of rfl) rfl) ?_
  all_goals refine oC (op_eql rfl rfl rfl) ?_
  all_goals refine oN ?_
  refine aC rfl (fun h => ?_) (fun h => absurd h (by decide))
  refine aS (aST (s' := mkSt 54 [(0, .v (m : Int)), (17, .v true)] []) ?_ ?_)
  · all_goals refine aR ?_
    all_goals refine oC (oM rfl (Conv.of rfl) rfl) ?_
    all_goals refine oC (op_leq rfl rfl rfl) ?_
    all_goals refine oC (oM rfl (Conv.of rfl) rfl) ?_
    all_goals refine g_lit (t := 14) (b := true) rfl ?_
    all_goals refine oC (gN rfl rfl rfl (oM rfl (Conv.of rfl) rfl)) ?_
    all_goals refine oC (gN rfl rfl rfl (oLt rfl rfl rfl)) ?_
    all_goals refine oC (oQ rfl rfl rfl rfl) ?_
    all_goals refine oN ?_
    all_goals exact Le.mk rfl (tle rfl (rfl) rfl (tle rfl (by (show AV.v _ = AV.v _; simp_all; try omega)) rfl tln)) oln noS
  refine aC rfl (fun h2 => ?_) (fun h2 => absurd h2 (by decide))
  all_goals refine aS (aR ?_)
  all_goals refine oC (oM rfl (Conv.of rfl) rfl) ?_
  all_goals refine oC (oL fb146 (.cons rfl (Conv.of rfl) (.nil _)) (small_ct m hm) (aK rfl rfl aK0) rfl rfl) ?_
  all_goals refine oC (oA rfl (Conv.of rfl) rfl) ?_
  all_goals refine oN ?_
  refine aT ?_
  repeat first | refine rS ?_ | refine rB ?_
  exact finP (.v rfl (Conv.of rfl)) rfl rfl
theorem itoaI_ct (m : Nat) (hm : m < 100) : CtP Tryz.prog 79 [.v (m : Int)] (.v (bs (decI (m : Int)))) := by
  refine Ct.intro Tryz.func79 rfl rfl ?_
  refine aS (aR ?_)
  refine oC (oA rfl (Conv.of rfl) rfl) ?_
  refine oN ?_
  refine aS (aR ?_)
  refine oC (oM rfl (Conv.of rfl) rfl) ?_
  refine oC (oL fb116 (.cons rfl (Conv.of rfl) (.cons rfl (Conv.of rfl) (.nil _))) (formatInt_ct m hm) (aK rfl rfl (aK rfl rfl aK0)) rfl rfl) ?_
  refine oC (oA rfl (Conv.of rfl) rfl) ?_
  refine oN ?_
  refine aT ?_
  repeat first | refine rS ?_ | refine rB ?_
  exact finP (.v rfl (Conv.of rfl)) rfl rfl
theorem itoa_ct (m : Nat) (hm : m < 100) : CtP Tryz.prog 50 [.v (m : Int)] (.v (bs (decI (m : Int)))) := by
  refine Ct.intro Tryz.func50 rfl rfl ?_
  refine aS (aR ?_)
  refine oC (oA rfl (Conv.of rfl) rfl) ?_
  refine oN ?_
  refine aS (aR ?_)
  refine oC (oM rfl (Conv.of rfl) rfl) ?_
  refine oC (oL fb79 (.cons rfl (Conv.of rfl) (.nil _)) (itoaI_ct m hm) (aK rfl rfl aK0) rfl rfl) ?_
  refine oC (oA rfl (Conv.of rfl) rfl) ?_
  refine oN ?_
  refine aT ?_
  repeat first | refine rS ?_ | refine rB ?_
  exact finP (.v rfl (Conv.of rfl)) rfl rfl
end Go.Proofs.YtgfoeiieopnlaaaGreatDoor

/- What a node holds for final, as a line. -/
set_option linter.unusedVariables false
set_option linter.unusedSimpArgs false
namespace Go.Proofs.YtgfoeiieopnlaaaGreatDoor
open Go Go.Wt
theorem itoaI {x : Int} (h : 0 ≤ x ∧ x < 100) : CtP Tryz.prog 50 [.v x] (.v (bs (decI x))) := by
  have := itoa_ct x.toNat (by omega)
  rwa [show ((x.toNat : Nat) : Int) = x by omega] at this
set_option maxHeartbeats 1000000 in
theorem status_ct (w : Wrld) (hw : FineX w) (id : Int) (hid : 1 ≤ id ∧ id ≤ 4) (n : Nod) (hx : w.nodes[(id - 1).toNat]? = some n) : CtO Tryz.prog 26 [.box 0 (IsLens.whole WrldA), .v id] (wo w) (.v (bs (statusF id n))) (wo w) := by
  have h4 := hw.four
  have hno := hw.nodes n (List.mem_of_getElem? hx)
  have hs := nodeOk_seen hno
  have hg := gdOf hs.1 (by omega)
  have hfc := final_chainOk (votesOk_mem hs.1)
  have hfl := chainOk_len hfc
  have hbk := book_bk hfc
  have hk9 := vfinal_ct n.seen hg.l hg.v hg.e
  have hh := statHead_len id (finalOf n.seen)
  unfold statusF
  generalize hcc : finalOf n.seen = c at hfc hfl hbk hk9 hh ⊢
  have hkb := bookOf_ct c hfc
  have hbl := hbk.len
  generalize hbb : bookF c = b at hbk hkb hbl ⊢
  have hsl := stat_len b (statHead id c)
  refine Ct.intro Tryz.func26 rfl rfl ?_
  refine aS (aR ?_)
  refine oC (oA rfl (Conv.of rfl) rfl) ?_
  refine oN ?_
  refine aS (aR ?_)
  refine oC (oM rfl (Conv.of rfl) rfl) ?_
  refine oC (oNB rfl rfl) ?_
  refine oC (oF f38_1_WrldA rfl rfl) ?_
  refine oC (oD ty35_NRef rfl rfl rfl) ?_
  refine oC (oM rfl (Conv.of rfl) rfl) ?_
  refine oC (op_sub rfl rfl rfl (by omega)) ?_
  refine oC (op_ixA sl35 rfl rfl rfl rfl ⟨by omega, by omega⟩) ?_
  refine oC (oFE f66_3 rfl rfl) ?_
  refine oC (op_lde ty36 rfl rfl hx rfl) ?_
  refine oC (oL fb52 (.cons rfl (Conv.of rfl) (.nil _)) (hk9) (aK rfl rfl aK0) rfl rfl) ?_
  refine oC (oA rfl (Conv.of rfl) rfl) ?_
  refine oN ?_
  refine aS (aR ?_)
  refine oC (oM rfl (Conv.of rfl) rfl) ?_
  refine oC (oL fb50 (.cons rfl (Conv.of rfl) (.nil _)) (itoaI (by omega)) (aK rfl rfl aK0) rfl rfl) ?_
  refine oC (op_adds rfl rfl rfl (by (simp; have := decI_len id; omega))) ?_
  refine oC (oM rfl (Conv.of rfl) rfl) ?_
  refine oC (oE sl72 rfl rfl) ?_
  refine oC (oL fb50 (.cons rfl (Conv.of rfl) (.nil _)) (itoaI (by show 0 ≤ (c.length : Int) ∧ (c.length : Int) < 100; omega)) (aK rfl rfl aK0) rfl rfl) ?_
  refine oC (op_adds rfl rfl rfl (by (simp; have := decI_len id; have := decI_len (c.length : Int); omega))) ?_
  refine oC (oA rfl (Conv.of rfl) rfl) ?_
  refine oN ?_
  refine aS (aS (aR ?_))
  refine oC (oM rfl (Conv.of rfl) rfl) ?_
  refine oC (oL fb53 (.cons rfl (Conv.cl) (.nil _)) (hkb) (aK rfl rfl aK0) rfl rfl) ?_
  refine oC (oE sl87 rfl rfl) ?_
  refine oC (oM rfl (Conv.of rfl) rfl) ?_
  refine oN ?_
  refine awp_to (s' := mkSt 41 [(0, .box 0 (IsLens.whole WrldA)), (6, .v (bs (b.foldl statStep (statHead id c))))] [(0, .cell (wA w)), (1, .arr w.nodes)]) ?_ ?_
  · refine aB ?_
    refine awp_loop' (fun n_ s => ∃ (k : Nat), ∃ (hk : n_ + k = 3), s = mkSt 41 [(0, .box 0 (IsLens.whole WrldA)), (6, .v (bs ((b.take k).foldl statStep (statHead id c)))), (27, .v b), (28, .v (b.length : Int)), (29, .v (k : Int))] [(0, .cell (wA w)), (1, .arr w.nodes)]) (3) ⟨0, by omega, rfl⟩ (Le.mk rfl (tlb rfl rfl rfl (tle rfl (by rfl) rfl (tle rfl (rfl) rfl (tle rfl (rfl) rfl (tle rfl (rfl) rfl tln))))) (olk rfl (by exact obOkW rfl) (olk rfl (by exact bA) oln)) (hU (a := wo w) rfl)) ?_
    rintro n_ s ⟨k, hk, rfl⟩
    refine aS (aR ?_)
    refine oC (oLt rfl rfl rfl) ?_
    refine oN ?_
    refine aS (aC rfl (fun h => ?_) (fun h => ?_))
    · have hlt : k < 3 := by
        have h0 : (k : Int) < (b.length : Int) := of_decide_eq_true h
        omega
      obtain ⟨x, hxk, _, hx0, hx27⟩ := hbk.at hlt
      have hxk' : b[(k : Int).toNat]? = some x := hxk
      have hdl := decI_len x
      have hst := stat_len (b.take k) (statHead id c)
      have htl : (b.take k).length ≤ 3 := by rw [List.length_take]; omega
      refine aW ?_
      refine aS (aB ?_)
      refine aS (aR ?_)
      refine oC (op_ix sl87 rfl rfl rfl (by omega) hxk') ?_
      refine oC (oDR ty3 rfl rfl) ?_
      refine oC (oA rfl (Conv.of rfl) rfl) ?_
      refine oN ?_
      refine aR ?_
      refine oC (oM rfl (Conv.of rfl) rfl) ?_
      refine oC (oM rfl (Conv.of rfl) rfl) ?_
      refine oC (oL fb50 (.cons rfl (Conv.of rfl) (.nil _)) (itoaI (by omega)) (aK rfl rfl aK0) rfl rfl) ?_
      refine oC (op_adds rfl rfl rfl (by (simp; omega))) ?_
      refine oC (op_adds rfl rfl rfl (by (simp; omega))) ?_
      refine oC (oA rfl (Conv.of rfl) rfl) ?_
      refine oN ?_
      refine aR ?_
      refine oC (oP rfl rfl rfl (by omega)) ?_
      refine oC (oM rfl (Conv.of rfl) rfl) ?_
      refine oN ?_
      repeat first | refine nS ?_ | refine nB ?_
      exact ⟨n_ - 1, _, by omega, ⟨k + 1, by omega, rfl⟩, Le.mk rfl (tlb rfl rfl rfl (tle rfl (by (first | rfl | (rw [foldl_at statStep _ hxk]; rfl))) rfl (tle rfl (rfl) rfl (tle rfl (rfl) rfl (tle rfl (rfl) rfl tln))))) (olk rfl (by exact obOkW rfl) (olk rfl (by exact bA) oln)) (hU (a := wo w) rfl)⟩
    · refine aE ?_
      repeat refine ex_seq ?_
      refine eB ?_
      have hk3 : b.length ≤ k := by
        have h0 : ¬ ((k : Int) < (b.length : Int)) := of_decide_eq_false h
        omega
      all_goals exact Le.mk rfl (tlb rfl rfl rfl (tle rfl (by (rw [take_end hk3])) rfl tln)) (olk rfl (by exact obOkW rfl) (olk rfl (by exact bA) oln)) (hU (a := wo w) rfl)
  refine aS (aR ?_)
  refine oC (oM rfl (Conv.of rfl) rfl) ?_
  refine oC (op_adds rfl rfl rfl (by (simp; omega))) ?_
  refine oC (oA rfl (Conv.of rfl) rfl) ?_
  refine oN ?_
  refine aT ?_
  repeat first | refine rS ?_ | refine rB ?_
  refine ⟨_, _, res1 (ol := wo w) (.v rfl (Conv.of rfl)) (fun o ho => by cases ho) (olk rfl (obOkW rfl) (olk rfl bA oln)) (hK rfl), rfl, rfl⟩
end Go.Proofs.YtgfoeiieopnlaaaGreatDoor
