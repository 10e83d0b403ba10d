/- Part 4 of the proof: texts one behind the other. -/
import Derived.Test.YtmhmeppocbcmeaaGreatM3
import Derived.Laws.Small
/- Sure chains, the longest, the final part. -/
set_option linter.unusedVariables false
set_option linter.unusedSimpArgs false
namespace Go.Proofs.YtmhmeppocbcmeaaGreat
open Go Go.Wt
theorem allFn_ct (x : CList Itm) (hO : Nat → Wt.Obj) (o : Nat) (v : Vote) (ho : hO o = .cell v) : Ct Tryz.prog 180 [.v x, .box o (IsLens.whole Vote)] hO (fun r1 h1 => r1 = .v (decide (x.l = v.chain)) ∧ h1 = hO) := by
  refine Ct.intro Tryz.func180 rfl rfl ?_
  first | refine aS (aR ?_) | refine aS (aS (aR ?_)) | refine aR ?_ | refine aS (aS (aS (aR ?_)))
  refine oC (oA rfl (Conv.of rfl) rfl) ?_
  refine oN ?_
  first | refine aS (aR ?_) | refine aS (aS (aR ?_)) | refine aR ?_ | refine aS (aS (aS (aR ?_)))
  first | refine oC (oM rfl (Conv.of rfl) rfl) ?_ | refine oC (op_mvl rfl rfl rfl rfl) ?_ | refine oC (op_mvo rfl rfl rfl rfl) ?_
  first | refine oC (oF f38_1 rfl rfl) ?_ | refine oC (oFR f38_1 rfl rfl) ?_ | refine oC (oFE f38_1 rfl rfl) ?_
  first | refine oC (oD ty27 rfl ho rfl) ?_ | refine oC (oDR ty27 rfl rfl) ?_ | refine oC (op_lde ty27 rfl rfl (by assumption) rfl) ?_ | refine oC (op_ldl ty27 rfl ho rfl) ?_ | refine oC (op_ldd ty27 rfl ho rfl) ?_ | refine oC (op_ldde ty27 rfl rfl (by assumption) rfl) ?_
  refine oC (oL fb169 (.cons rfl (Conv.cl) (.cons rfl (Conv.of rfl) (.nil _))) (equal_ct _ _) (aK rfl rfl (aK rfl rfl aK0)) rfl rfl) ?_
  first | refine oC (oA rfl (Conv.of rfl) rfl) ?_ | refine oC (op_asl rfl rfl rfl rfl) ?_ | refine oC (op_aso rfl rfl rfl rfl) ?_
  refine oN ?_
  refine aT ?_
  repeat first | refine rS ?_ | refine rB ?_
  exact finH (r := .v _) (.v rfl (Conv.of rfl)) rfl rfl
theorem map_any (l : List (List Itm)) (c : List Itm) : ((l.map CList.mk).any fun x => decide (x.l = c)) = decide (c ∈ l) := by
  rw [Bool.eq_iff_iff]; simp
set_option maxHeartbeats 1000000 in
theorem all_ct (l : List Vote) (hl : l.length ≤ 100000) (hv : ∀ v ∈ l, v.chain.length ≤ 1000000) : CtP Tryz.prog 177 [.v l] (.v (CList.mk ((allOf l).map CList.mk))) := by
  refine Ct.intro Tryz.func177 rfl rfl ?_
  all_goals first | refine aS (aR ?_) | refine aS (aS (aR ?_)) | refine aR ?_ | refine aS (aS (aS (aR ?_)))
  all_goals refine oC (oA rfl (Conv.of rfl) rfl) ?_
  all_goals refine oN ?_
  all_goals first | refine aS (aR ?_) | refine aS (aS (aR ?_)) | refine aR ?_ | refine aS (aS (aS (aR ?_)))
  all_goals refine oC (op_bsc sl27 z143 (.nil _) rfl (by decide) rfl) ?_
  all_goals refine oC (op_bsl sl133_CListItm z27_CListItm (.cons rfl (Conv.of rfl) (.nil _)) rfl (by decide) rfl) ?_
  all_goals first | refine oC (oA rfl (Conv.of rfl) rfl) ?_ | refine oC (op_asl rfl rfl rfl rfl) ?_ | refine oC (op_aso rfl rfl rfl rfl) ?_
  all_goals refine oN ?_
  all_goals first | refine aS (aR ?_) | refine aS (aS (aR ?_)) | refine aR ?_ | refine aS (aS (aS (aR ?_)))
  all_goals first | refine oC (oM rfl (Conv.of rfl) rfl) ?_ | refine oC (op_mvl rfl rfl rfl rfl) ?_ | refine oC (op_mvo rfl rfl rfl rfl) ?_
  all_goals first | refine oC (oE sl141 rfl rfl) ?_ | refine oC (oEA sl141 rfl rfl rfl) ?_
  all_goals refine oC (oM rfl (Conv.of rfl) rfl) ?_
  all_goals refine oN ?_
  first | refine aS (aB ?_) | refine aS (aS (aB ?_)) | refine aB ?_ | refine aS (aS (aS (aB ?_)))
  first | refine aS (awp_loop' (fun n s => ∃ (k : Nat), ∃ (hn : n + k = l.length), s = mkSt 35 [(0, .v l), (3, .v (OList.mk (((l.take k).foldl (allStep l) [[]]).map CList.mk) true)), (9, .v l), (10, .v (l.length : Int)), (11, .v (k : Int))] []) (l.length) ⟨0, by omega, rfl⟩ (Le.mk rfl (tle rfl (rfl) rfl (tle rfl (by first | rfl | (rw [foldl_at _ _ hx]; simp [allStep, *])) rfl (tle rfl (rfl) rfl (tle rfl (rfl) rfl (tle rfl (rfl) rfl tln))))) oln noS) ?_) | refine aS (aS (awp_loop' (fun n s => ∃ (k : Nat), ∃ (hn : n + k = l.length), s = mkSt 35 [(0, .v l), (3, .v (OList.mk (((l.take k).foldl (allStep l) [[]]).map CList.mk) true)), (9, .v l), (10, .v (l.length : Int)), (11, .v (k : Int))] []) (l.length) ⟨0, by omega, rfl⟩ (Le.mk rfl (tle rfl (rfl) rfl (tle rfl (by first | rfl | (rw [foldl_at _ _ hx]; simp [allStep, *])) rfl (tle rfl (rfl) rfl (tle rfl (rfl) rfl (tle rfl (rfl) rfl tln))))) oln noS) ?_)) | refine awp_loop' (fun n s => ∃ (k : Nat), ∃ (hn : n + k = l.length), s = mkSt 35 [(0, .v l), (3, .v (OList.mk (((l.take k).foldl (allStep l) [[]]).map CList.mk) true)), (9, .v l), (10, .v (l.length : Int)), (11, .v (k : Int))] []) (l.length) ⟨0, by omega, rfl⟩ (Le.mk rfl (tle rfl (rfl) rfl (tle rfl (by first | rfl | (rw [foldl_at _ _ hx]; simp [allStep, *])) rfl (tle rfl (rfl) rfl (tle rfl (rfl) rfl (tle rfl (rfl) rfl tln))))) oln noS) ?_ | refine aS (aS (aS (awp_loop' (fun n s => ∃ (k : Nat), ∃ (hn : n + k = l.length), s = mkSt 35 [(0, .v l), (3, .v (OList.mk (((l.take k).foldl (allStep l) [[]]).map CList.mk) true)), (9, .v l), (10, .v (l.length : Int)), (11, .v (k : Int))] []) (l.length) ⟨0, by omega, rfl⟩ (Le.mk rfl (tle rfl (rfl) rfl (tle rfl (by first | rfl | (rw [foldl_at _ _ hx]; simp [allStep, *])) rfl (tle rfl (rfl) rfl (tle rfl (rfl) rfl (tle rfl (rfl) rfl tln))))) oln noS) ?_)))
  rintro n s ⟨k, hn, rfl⟩
  have hout := allStep_len l (l.take k) [[]]
  have hout' : ((l.take k).foldl (allStep l) [[]]).length ≤ 100001 := by simp at hout; omega
  all_goals first | refine aS (aR ?_) | refine aS (aS (aR ?_)) | refine aR ?_ | refine aS (aS (aS (aR ?_)))
  all_goals refine oC (oLt rfl rfl rfl) ?_
  all_goals refine oN ?_
  first | refine aS (aC rfl (fun h => ?_) (fun h => ?_)) | refine aS (aS (aC rfl (fun h => ?_) (fun h => ?_))) | refine aC rfl (fun h => ?_) (fun h => ?_) | refine aS (aS (aS (aC rfl (fun h => ?_) (fun h => ?_))))
  · have hlt : k < l.length := by simpa using h
    have hx : l[k]? = some l[k] := List.getElem?_eq_getElem hlt
    refine aW ?_
    first | refine aS (aB ?_) | refine aS (aS (aB ?_)) | refine aB ?_ | refine aS (aS (aS (aB ?_)))
    all_goals first | refine aS (aR ?_) | refine aS (aS (aR ?_)) | refine aR ?_ | refine aS (aS (aS (aR ?_)))
    all_goals first | refine oC (op_ix sl141 rfl rfl rfl (by omega) hx) ?_ | refine oC (op_ixA sl141 rfl rfl rfl rfl (by omega)) ?_
    all_goals first | refine oC (oD ty38 rfl rfl rfl) ?_ | refine oC (oDR ty38 rfl rfl) ?_ | refine oC (op_lde ty38 rfl rfl (by assumption) rfl) ?_ | refine oC (op_ldl ty38 rfl rfl rfl) ?_ | refine oC (op_ldd ty38 rfl rfl rfl) ?_ | refine oC (op_ldde ty38 rfl rfl (by assumption) rfl) ?_
    all_goals refine oC (oX (o := 0) z38 rfl rfl) ?_
    all_goals first | refine oC (op_st ty38 rfl rfl (Conv.of rfl) rfl) ?_ | refine oC (op_ste ty38 rfl rfl (Conv.of rfl) rfl (by assumption)) ?_ | refine oC (op_stm ty38 rfl rfl rfl) ?_ | refine oC (op_stme ty38 rfl rfl rfl (by assumption)) ?_
    all_goals refine oN ?_
    all_goals first | refine aS (aR ?_) | refine aS (aS (aR ?_)) | refine aR ?_ | refine aS (aS (aS (aR ?_)))
    all_goals refine oC (oM rfl Conv.ol rfl) ?_
    all_goals refine oC (op_mf (f := 180) .nil (.cons (r := .box 0 (IsLens.whole Vote)) rfl (Conv.of rfl) .nil) rfl) ?_
    all_goals refine awpOps_callH rfl (fb179) (.cons rfl (Conv.of rfl) (.cons rfl (Conv.of rfl) (.nil _))) rfl (containsC_ct _ _ [] [.box 0 (IsLens.whole Vote)] _ (fun x => decide (x.l = l[k].chain)) (fb180) (fun x hx => allFn_ct x _ 0 l[k] rfl) (by intro z hz; simp [avs, FV.av] at hz; subst hz; exact ⟨rfl, fun o ho => by simp [AV.refs] at ho; subst ho; rfl⟩) (fun o => by by_cases e : o = 0 <;> simp [mkSt, st0, St.upd, lk, lk0, orr, e, obOk, noObj] <;> exact plain_refs _)) (Hand.none (Hand.l1 (Hand.of rfl rfl) (Hand.l1 ⟨rfl, fun o ho => by simp [AV.refs, FV.refs] at ho; subst ho; rfl⟩ Hand.l0))) (fun o => by by_cases e : o = 0 <;> simp [mkSt, st0, St.upd, lk, lk0, orr, e, obOk, noObj] <;> exact plain_refs _) rfl rfl ?_
    all_goals first | refine oC (oA rfl (Conv.of rfl) rfl) ?_ | refine oC (op_asl rfl rfl rfl rfl) ?_ | refine oC (op_aso rfl rfl rfl rfl) ?_
    all_goals refine oN ?_
    rw [map_any]
    first | refine aS (aS (aS (aST (s' := mkSt 35 [(0, .v l), (3, .v (OList.mk (((l.take k).foldl (allStep l) [[]]).map CList.mk) true)), (5, .box 0 (IsLens.whole Vote)), (9, .v l), (10, .v (l.length : Int)), (11, .v (k : Int)), (25, .v (!decide (l[k].chain ∈ (l.take k).foldl (allStep l) [[]]) && sure l l[k].chain))] [(0, .cell l[k])]) ?_ ?_))) | refine aS (aS (aST (s' := mkSt 35 [(0, .v l), (3, .v (OList.mk (((l.take k).foldl (allStep l) [[]]).map CList.mk) true)), (5, .box 0 (IsLens.whole Vote)), (9, .v l), (10, .v (l.length : Int)), (11, .v (k : Int)), (25, .v (!decide (l[k].chain ∈ (l.take k).foldl (allStep l) [[]]) && sure l l[k].chain))] [(0, .cell l[k])]) ?_ ?_)) | refine aS (aST (s' := mkSt 35 [(0, .v l), (3, .v (OList.mk (((l.take k).foldl (allStep l) [[]]).map CList.mk) true)), (5, .box 0 (IsLens.whole Vote)), (9, .v l), (10, .v (l.length : Int)), (11, .v (k : Int)), (25, .v (!decide (l[k].chain ∈ (l.take k).foldl (allStep l) [[]]) && sure l l[k].chain))] [(0, .cell l[k])]) ?_ ?_) | refine aST (s' := mkSt 35 [(0, .v l), (3, .v (OList.mk (((l.take k).foldl (allStep l) [[]]).map CList.mk) true)), (5, .box 0 (IsLens.whole Vote)), (9, .v l), (10, .v (l.length : Int)), (11, .v (k : Int)), (25, .v (!decide (l[k].chain ∈ (l.take k).foldl (allStep l) [[]]) && sure l l[k].chain))] [(0, .cell l[k])]) ?_ ?_ | refine awp_toB (s' := mkSt 35 [(0, .v l), (3, .v (OList.mk (((l.take k).foldl (allStep l) [[]]).map CList.mk) true)), (5, .box 0 (IsLens.whole Vote)), (9, .v l), (10, .v (l.length : Int)), (11, .v (k : Int)), (25, .v (!decide (l[k].chain ∈ (l.take k).foldl (allStep l) [[]]) && sure l l[k].chain))] [(0, .cell l[k])]) ?_ ?_ | refine awp_to (s' := mkSt 35 [(0, .v l), (3, .v (OList.mk (((l.take k).foldl (allStep l) [[]]).map CList.mk) true)), (5, .box 0 (IsLens.whole Vote)), (9, .v l), (10, .v (l.length : Int)), (11, .v (k : Int)), (25, .v (!decide (l[k].chain ∈ (l.take k).foldl (allStep l) [[]]) && sure l l[k].chain))] [(0, .cell l[k])]) ?_ ?_
    · all_goals first | refine aS (aR ?_) | refine aS (aS (aR ?_)) | refine aR ?_ | refine aS (aS (aS (aR ?_)))
      all_goals first | refine oC (oM rfl (Conv.of rfl) rfl) ?_ | refine oC (op_mvl rfl rfl rfl rfl) ?_ | refine oC (op_mvo rfl rfl rfl rfl) ?_
      all_goals refine oC (op_not rfl rfl) ?_
      all_goals first | refine oC (oM rfl (Conv.of rfl) rfl) ?_ | refine oC (op_mvl rfl rfl rfl rfl) ?_ | refine oC (op_mvo rfl rfl rfl rfl) ?_
      all_goals first | refine g_lit (t := 20) (b := true) rfl ?_ | refine g_lit (t := 20) (b := false) rfl ?_ | refine g_ulit (t := 20) rfl ?_ | refine g_split (t := 20) rfl (fun h => ?_) (fun h => ?_)
      all_goals first | refine oC (gF rfl rfl rfl rfl rfl) ?_ | refine oC (g_und rfl rfl rfl) ?_ | refine oC (gN rfl rfl rfl (oM rfl (Conv.of rfl) rfl)) ?_ | refine oC (gN rfl rfl rfl (op_mvl rfl rfl rfl rfl)) ?_ | refine oC (gN rfl rfl rfl (op_mvo rfl rfl rfl rfl)) ?_
      all_goals first | refine oC (gF rfl rfl rfl rfl rfl) ?_ | refine oC (g_und rfl rfl rfl) ?_ | refine oC (gN rfl rfl rfl (oF f38_1 rfl rfl)) ?_ | refine oC (gN rfl rfl rfl (oFR f38_1 rfl rfl)) ?_ | refine oC (gN rfl rfl rfl (oFE f38_1 rfl rfl)) ?_
      all_goals first | refine oC (gF rfl rfl rfl rfl rfl) ?_ | refine oC (g_und rfl rfl rfl) ?_ | refine oC (gN rfl rfl rfl (oD ty27 rfl rfl rfl)) ?_ | refine oC (gN rfl rfl rfl (oDR ty27 rfl rfl)) ?_ | refine oC (gN rfl rfl rfl (op_lde ty27 rfl rfl (by assumption) rfl)) ?_ | refine oC (gN rfl rfl rfl (op_ldl ty27 rfl rfl rfl)) ?_ | refine oC (gN rfl rfl rfl (op_ldd ty27 rfl rfl rfl)) ?_ | refine oC (gN rfl rfl rfl (op_ldde ty27 rfl rfl (by assumption) rfl)) ?_
      all_goals first | refine oC (gF rfl rfl rfl rfl rfl) ?_ | refine oC (g_und rfl rfl rfl) ?_ | refine oC (gN rfl rfl rfl (oL fb174 (.cons rfl (Conv.of rfl) (.cons rfl (Conv.of rfl) (.nil _))) (sure_ct _ _) (aK rfl rfl (aK rfl rfl aK0)) rfl rfl)) ?_
      all_goals refine oC (oQ rfl rfl rfl rfl) ?_
      all_goals refine oN ?_
      all_goals exact Le.mk rfl (tle rfl (rfl) rfl (tle rfl (rfl) rfl (tlb rfl rfl rfl (tle rfl (rfl) rfl (tle rfl (rfl) rfl (tle rfl (rfl) rfl (tle rfl (by first | rfl | simp_all) rfl tln))))))) (olk rfl (by first | exact bC | exact bA | exact obOkW rfl | exact obOkW0 | exact obOkN | exact obOkS rfl | exact bN | exact obOkS0 | trivial) oln) noS
    first | refine aS (aC rfl (fun hb => ?_) (fun hb => ?_)) | refine aS (aS (aC rfl (fun hb => ?_) (fun hb => ?_))) | refine aC rfl (fun hb => ?_) (fun hb => ?_) | refine aS (aS (aS (aC rfl (fun hb => ?_) (fun hb => ?_))))
    · all_goals first | refine aS (aR ?_) | refine aS (aS (aR ?_)) | refine aR ?_ | refine aS (aS (aS (aR ?_)))
      all_goals first | refine oC (oM rfl (Conv.of rfl) rfl) ?_ | refine oC (op_mvl rfl rfl rfl rfl) ?_ | refine oC (op_mvo rfl rfl rfl rfl) ?_
      all_goals first | refine oC (oF f38_1 rfl rfl) ?_ | refine oC (oFR f38_1 rfl rfl) ?_ | refine oC (oFE f38_1 rfl rfl) ?_
      all_goals first | refine oC (oD ty27 rfl rfl rfl) ?_ | refine oC (oDR ty27 rfl rfl) ?_ | refine oC (op_lde ty27 rfl rfl (by assumption) rfl) ?_ | refine oC (op_ldl ty27 rfl rfl rfl) ?_ | refine oC (op_ldd ty27 rfl rfl rfl) ?_ | refine oC (op_ldde ty27 rfl rfl (by assumption) rfl) ?_
      all_goals refine oC (oL fb58 (.cons rfl (Conv.of rfl) (.nil _)) (copied_ct _ (hv _ (List.getElem_mem hlt))) (aK rfl rfl aK0) rfl rfl) ?_
      all_goals refine oC (op_bsl sl133_CListItm z27_CListItm (.cons rfl (Conv.of rfl) (.nil _)) rfl (by decide) rfl) ?_
      all_goals refine oC (op_app sl133_CListItm z27_CListItm ul133 rfl rfl rfl (by (simp; omega)) (by (simp; omega)) rfl rfl) ?_
      all_goals first | refine oC (oA rfl (Conv.of rfl) rfl) ?_ | refine oC (op_asl rfl rfl rfl rfl) ?_ | refine oC (op_aso rfl rfl rfl rfl) ?_
      all_goals refine oN ?_
      all_goals first | refine aS (aR ?_) | refine aS (aS (aR ?_)) | refine aR ?_ | refine aS (aS (aS (aR ?_)))
      all_goals refine oC (oP rfl rfl rfl (by omega)) ?_
      all_goals first | refine oC (oM rfl (Conv.of rfl) rfl) ?_ | refine oC (op_mvl rfl rfl rfl rfl) ?_ | refine oC (op_mvo rfl rfl rfl rfl) ?_
      all_goals refine oN ?_
      repeat first | refine nS ?_ | refine nB ?_
      exact ⟨n - 1, _, by omega, ⟨k + 1, by omega, rfl⟩, Le.mk rfl (tle rfl (rfl) rfl (tle rfl (by first | rfl | (rw [foldl_at _ _ hx]; simp [allStep, *])) rfl (tle rfl (rfl) rfl (tle rfl (rfl) rfl (tle rfl (rfl) rfl tln))))) oln noS⟩
    · refine aW ?_
      all_goals first | refine aS (aR ?_) | refine aS (aS (aR ?_)) | refine aR ?_ | refine aS (aS (aS (aR ?_)))
      all_goals refine oC (oP rfl rfl rfl (by omega)) ?_
      all_goals first | refine oC (oM rfl (Conv.of rfl) rfl) ?_ | refine oC (op_mvl rfl rfl rfl rfl) ?_ | refine oC (op_mvo rfl rfl rfl rfl) ?_
      all_goals refine oN ?_
      repeat first | refine nS ?_ | refine nB ?_
      exact ⟨n - 1, _, by omega, ⟨k + 1, by omega, rfl⟩, Le.mk rfl (tle rfl (rfl) rfl (tle rfl (by first | rfl | (rw [foldl_at _ _ hx]; simp [allStep, *])) rfl (tle rfl (rfl) rfl (tle rfl (rfl) rfl (tle rfl (rfl) rfl tln))))) oln noS⟩
  · refine aE ?_
    repeat refine ex_seq ?_
    refine eB ?_
    have hk : l.length ≤ k := by simpa using h
    all_goals first | refine aS (aR ?_) | refine aS (aS (aR ?_)) | refine aR ?_ | refine aS (aS (aS (aR ?_)))
    all_goals first | refine oC (oM rfl (Conv.of rfl) rfl) ?_ | refine oC (op_mvl rfl rfl rfl rfl) ?_ | refine oC (op_mvo rfl rfl rfl rfl) ?_
    all_goals refine oC (oL fb181 (.cons rfl (Conv.ol) (.nil _)) (clipC_ct ⟨((l.take k).foldl (allStep l) [[]]).map CList.mk, true⟩) (aK rfl rfl aK0) rfl rfl) ?_
    all_goals first | refine oC (oA rfl (Conv.of rfl) rfl) ?_ | refine oC (op_asl rfl rfl rfl rfl) ?_ | refine oC (op_aso rfl rfl rfl rfl) ?_
    all_goals refine oN ?_
    refine aT ?_
    repeat first | refine rS ?_ | refine rB ?_
    refine finP (.v rfl (Conv.of rfl)) rfl ?_
    simp only [take_end hk]; rfl
theorem allOf_len {l : List Vote} (hl : l.length ≤ 100000) : (allOf l).length ≤ 100001 := by
  have := allStep_len l l [[]]
  simp at this; unfold allOf; omega
theorem tip_ct (l : List Vote) (hl : l.length ≤ 100000) (hv : ∀ v ∈ l, v.chain.length ≤ 1000000) : CtP Tryz.prog 171 [.v l] (.v (CList.mk (tipOf l))) := by
  have hall := allOf_len hl
  refine Ct.intro Tryz.func171 rfl rfl ?_
  first | refine aS (aR ?_) | refine aS (aS (aR ?_)) | refine aR ?_ | refine aS (aS (aS (aR ?_)))
  refine oC (oA rfl (Conv.of rfl) rfl) ?_
  refine oN ?_
  first | refine aS (aR ?_) | refine aS (aS (aR ?_)) | refine aR ?_ | refine aS (aS (aS (aR ?_)))
  refine oC (op_bsc sl27 z143 (.nil _) rfl (by decide) rfl) ?_
  first | refine oC (oA rfl (Conv.of rfl) rfl) ?_ | refine oC (op_asl rfl rfl rfl rfl) ?_ | refine oC (op_aso rfl rfl rfl rfl) ?_
  refine oN ?_
  first | refine aS (aR ?_) | refine aS (aS (aR ?_)) | refine aR ?_ | refine aS (aS (aS (aR ?_)))
  first | refine oC (oM rfl (Conv.of rfl) rfl) ?_ | refine oC (op_mvl rfl rfl rfl rfl) ?_ | refine oC (op_mvo rfl rfl rfl rfl) ?_
  refine oC (oL fb177 (.cons rfl (Conv.of rfl) (.nil _)) (all_ct l hl hv) (aK rfl rfl aK0) rfl rfl) ?_
  first | refine oC (oE sl133_CListItm rfl rfl) ?_ | refine oC (oEA sl133_CListItm rfl rfl rfl) ?_
  refine oC (oM rfl (Conv.of rfl) rfl) ?_
  refine oN ?_
  first | refine aS (aB ?_) | refine aS (aS (aB ?_)) | refine aB ?_ | refine aS (aS (aS (aB ?_)))
  first | refine aS (awp_loop' (fun n s => ∃ (k : Nat), ∃ (hn : n + k = (allOf l).length), s = mkSt 22 [(3, .v (CList.mk (((allOf l).take k).foldl tipStep []))), (8, .v (CList.mk ((allOf l).map CList.mk))), (9, .v ((allOf l).length : Int)), (10, .v (k : Int))] []) ((allOf l).length) ⟨0, by omega, rfl⟩ (Le.mk rfl (tle rfl (by first | rfl | (rw [foldl_at _ _ hx]; simp [tipStep, hb''])) rfl (tle rfl (rfl) rfl (tle rfl (by first | rfl | simp) rfl (tle rfl (rfl) rfl tln)))) oln noS) ?_) | refine aS (aS (awp_loop' (fun n s => ∃ (k : Nat), ∃ (hn : n + k = (allOf l).length), s = mkSt 22 [(3, .v (CList.mk (((allOf l).take k).foldl tipStep []))), (8, .v (CList.mk ((allOf l).map CList.mk))), (9, .v ((allOf l).length : Int)), (10, .v (k : Int))] []) ((allOf l).length) ⟨0, by omega, rfl⟩ (Le.mk rfl (tle rfl (by first | rfl | (rw [foldl_at _ _ hx]; simp [tipStep, hb''])) rfl (tle rfl (rfl) rfl (tle rfl (by first | rfl | simp) rfl (tle rfl (rfl) rfl tln)))) oln noS) ?_)) | refine awp_loop' (fun n s => ∃ (k : Nat), ∃ (hn : n + k = (allOf l).length), s = mkSt 22 [(3, .v (CList.mk (((allOf l).take k).foldl tipStep []))), (8, .v (CList.mk ((allOf l).map CList.mk))), (9, .v ((allOf l).length : Int)), (10, .v (k : Int))] []) ((allOf l).length) ⟨0, by omega, rfl⟩ (Le.mk rfl (tle rfl (by first | rfl | (rw [foldl_at _ _ hx]; simp [tipStep, hb''])) rfl (tle rfl (rfl) rfl (tle rfl (by first | rfl | simp) rfl (tle rfl (rfl) rfl tln)))) oln noS) ?_ | refine aS (aS (aS (awp_loop' (fun n s => ∃ (k : Nat), ∃ (hn : n + k = (allOf l).length), s = mkSt 22 [(3, .v (CList.mk (((allOf l).take k).foldl tipStep []))), (8, .v (CList.mk ((allOf l).map CList.mk))), (9, .v ((allOf l).length : Int)), (10, .v (k : Int))] []) ((allOf l).length) ⟨0, by omega, rfl⟩ (Le.mk rfl (tle rfl (by first | rfl | (rw [foldl_at _ _ hx]; simp [tipStep, hb''])) rfl (tle rfl (rfl) rfl (tle rfl (by first | rfl | simp) rfl (tle rfl (rfl) rfl tln)))) oln noS) ?_)))
  rintro n s ⟨k, hn, rfl⟩
  first | refine aS (aR ?_) | refine aS (aS (aR ?_)) | refine aR ?_ | refine aS (aS (aS (aR ?_)))
  refine oC (oLt rfl rfl rfl) ?_
  refine oN ?_
  first | refine aS (aC rfl (fun h => ?_) (fun h => ?_)) | refine aS (aS (aC rfl (fun h => ?_) (fun h => ?_))) | refine aC rfl (fun h => ?_) (fun h => ?_) | refine aS (aS (aS (aC rfl (fun h => ?_) (fun h => ?_))))
  · have hlt : k < (allOf l).length := by simpa using h
    have hx : (allOf l)[k]? = some (allOf l)[k] := List.getElem?_eq_getElem hlt
    have hx' : ((allOf l).map CList.mk)[(k : Int).toNat]? = some (CList.mk (allOf l)[k]) := by simp [hlt]
    refine aW ?_
    first | refine aS (aB ?_) | refine aS (aS (aB ?_)) | refine aB ?_ | refine aS (aS (aS (aB ?_)))
    first | refine aS (aR ?_) | refine aS (aS (aR ?_)) | refine aR ?_ | refine aS (aS (aS (aR ?_)))
    first | refine oC (op_ix sl133_CListItm rfl rfl rfl (by omega) hx') ?_ | refine oC (op_ixA sl133_CListItm rfl rfl rfl rfl (by omega)) ?_
    first | refine oC (oD ty27_CListItm rfl rfl rfl) ?_ | refine oC (oDR ty27_CListItm rfl rfl) ?_ | refine oC (op_lde ty27_CListItm rfl rfl (by assumption) rfl) ?_ | refine oC (op_ldl ty27_CListItm rfl rfl rfl) ?_ | refine oC (op_ldd ty27_CListItm rfl rfl rfl) ?_ | refine oC (op_ldde ty27_CListItm rfl rfl (by assumption) rfl) ?_
    first | refine oC (oA rfl (Conv.of rfl) rfl) ?_ | refine oC (op_asl rfl rfl rfl rfl) ?_ | refine oC (op_aso rfl rfl rfl rfl) ?_
    refine oN ?_
    first | refine aS (aR ?_) | refine aS (aS (aR ?_)) | refine aR ?_ | refine aS (aS (aS (aR ?_)))
    first | refine oC (oM rfl (Conv.of rfl) rfl) ?_ | refine oC (op_mvl rfl rfl rfl rfl) ?_ | refine oC (op_mvo rfl rfl rfl rfl) ?_
    first | refine oC (oE sl27 rfl rfl) ?_ | refine oC (oEA sl27 rfl rfl rfl) ?_
    first | refine oC (oM rfl (Conv.of rfl) rfl) ?_ | refine oC (op_mvl rfl rfl rfl rfl) ?_ | refine oC (op_mvo rfl rfl rfl rfl) ?_
    first | refine oC (oE sl27 rfl rfl) ?_ | refine oC (oEA sl27 rfl rfl rfl) ?_
    refine oC (op_gtr rfl rfl rfl) ?_
    refine oN ?_
    first | refine aS (aC rfl (fun hb => ?_) (fun hb => ?_)) | refine aS (aS (aC rfl (fun hb => ?_) (fun hb => ?_))) | refine aC rfl (fun hb => ?_) (fun hb => ?_) | refine aS (aS (aS (aC rfl (fun hb => ?_) (fun hb => ?_))))
    · have hb' : (((allOf l).take k).foldl tipStep []).length < ((allOf l)[k]).length := by simp at hb; omega
      have hb'' := eq_true hb'
      first | refine aS (aR ?_) | refine aS (aS (aR ?_)) | refine aR ?_ | refine aS (aS (aS (aR ?_)))
      first | refine oC (oM rfl (Conv.of rfl) rfl) ?_ | refine oC (op_mvl rfl rfl rfl rfl) ?_ | refine oC (op_mvo rfl rfl rfl rfl) ?_
      first | refine oC (oA rfl (Conv.of rfl) rfl) ?_ | refine oC (op_asl rfl rfl rfl rfl) ?_ | refine oC (op_aso rfl rfl rfl rfl) ?_
      refine oN ?_
      first | refine aS (aR ?_) | refine aS (aS (aR ?_)) | refine aR ?_ | refine aS (aS (aS (aR ?_)))
      refine oC (oP rfl rfl rfl (by omega)) ?_
      first | refine oC (oM rfl (Conv.of rfl) rfl) ?_ | refine oC (op_mvl rfl rfl rfl rfl) ?_ | refine oC (op_mvo rfl rfl rfl rfl) ?_
      refine oN ?_
      repeat first | refine nS ?_ | refine nB ?_
      exact ⟨n - 1, _, by omega, ⟨k + 1, by omega, rfl⟩, Le.mk rfl (tle rfl (by first | rfl | (rw [foldl_at _ _ hx]; simp [tipStep, hb''])) rfl (tle rfl (rfl) rfl (tle rfl (by first | rfl | simp) rfl (tle rfl (rfl) rfl tln)))) oln noS⟩
    · have hb' : ¬ (((allOf l).take k).foldl tipStep []).length < ((allOf l)[k]).length := by simp at hb; omega
      have hb'' := eq_false hb'
      refine aW ?_
      first | refine aS (aR ?_) | refine aS (aS (aR ?_)) | refine aR ?_ | refine aS (aS (aS (aR ?_)))
      refine oC (oP rfl rfl rfl (by omega)) ?_
      first | refine oC (oM rfl (Conv.of rfl) rfl) ?_ | refine oC (op_mvl rfl rfl rfl rfl) ?_ | refine oC (op_mvo rfl rfl rfl rfl) ?_
      refine oN ?_
      repeat first | refine nS ?_ | refine nB ?_
      exact ⟨n - 1, _, by omega, ⟨k + 1, by omega, rfl⟩, Le.mk rfl (tle rfl (by first | rfl | (rw [foldl_at _ _ hx]; simp [tipStep, hb''])) rfl (tle rfl (rfl) rfl (tle rfl (by first | rfl | simp) rfl (tle rfl (rfl) rfl tln)))) oln noS⟩
  · refine aE ?_
    repeat refine ex_seq ?_
    refine eB ?_
    have hk : (allOf l).length ≤ k := by simpa using h
    first | refine aS (aR ?_) | refine aS (aS (aR ?_)) | refine aR ?_ | refine aS (aS (aS (aR ?_)))
    first | refine oC (oM rfl (Conv.of rfl) rfl) ?_ | refine oC (op_mvl rfl rfl rfl rfl) ?_ | refine oC (op_mvo rfl rfl rfl rfl) ?_
    first | refine oC (oA rfl (Conv.of rfl) rfl) ?_ | refine oC (op_asl rfl rfl rfl rfl) ?_ | refine oC (op_aso rfl rfl rfl rfl) ?_
    refine oN ?_
    refine aT ?_
    repeat first | refine rS ?_ | refine rB ?_
    refine finP (.v rfl (Conv.of rfl)) rfl ?_
    simp only [take_end hk]; rfl
end Go.Proofs.YtmhmeppocbcmeaaGreat

/- Nodes. -/
set_option linter.unusedVariables false
set_option linter.unusedSimpArgs false
namespace Go.Proofs.YtmhmeppocbcmeaaGreat
open Go Go.Wt
theorem lateFn_ct (v : Vote) (hv : 0 < v.chain.length) (hO : Nat → Wt.Obj) (n : Nod) (ho : hO 0 = .cell n) (hf : hO 9 = .free) (hH : ∀ o, obOk (pH hO) (hO o)) :
    Ct Tryz.prog 149 [.v v, .box 0 (IsLens.whole Nod)] hO (fun r1 h1 => r1 = .v (late n v) ∧ h1 = hO) := by
  refine Ct.intro Tryz.func149 rfl rfl ?_
  all_goals refine aS (aR ?_)
  all_goals refine oC (op_box (o := 9) ty38 rfl (Conv.of rfl) hf rfl) ?_
  all_goals refine oC (oA rfl (Conv.of rfl) rfl) ?_
  all_goals refine oN ?_
  all_goals refine aS (dS ?_)
  all_goals refine dC (oF f38_0 rfl rfl) ?_
  all_goals refine dC (oD ty3 rfl rfl rfl) ?_
  all_goals refine dC (oF f90_0 rfl rfl) ?_
  all_goals refine dC (oD ty3 rfl ho rfl) ?_
  all_goals refine dC (op_eql rfl rfl rfl) ?_
  all_goals refine dC (oM rfl (Conv.of rfl) rfl) ?_
  all_goals refine dr_split (t := 9) rfl (fun h => ?_) (fun h => ?_)
  all_goals first | refine dC (gF rfl rfl rfl rfl rfl) ?_ | refine dC (gN rfl rfl rfl (oD ty38 rfl rfl rfl)) ?_
  all_goals first | refine dC (gF rfl rfl rfl rfl rfl) ?_ | refine dC (gN rfl rfl rfl (oL fb150 (.cons rfl (Conv.of rfl) (.nil _)) (last_ct _ hv) (aK rfl rfl aK0) rfl rfl)) ?_
  all_goals first | refine dC (gF rfl rfl rfl rfl rfl) ?_ | refine dC (gN rfl rfl rfl (oF f90_2 rfl rfl)) ?_
  all_goals first | refine dC (gF rfl rfl rfl rfl rfl) ?_ | refine dC (gN rfl rfl rfl (oD ty3 rfl ho rfl)) ?_
  all_goals first | refine dC (gF rfl rfl rfl rfl rfl) ?_ | refine dC (gN rfl rfl rfl (op_gtr rfl rfl rfl)) ?_
  all_goals refine dC (oQ rfl rfl rfl rfl) ?_
  all_goals refine dC (oA rfl (Conv.of rfl) rfl) ?_
  all_goals refine dr_nil mixed rfl ?_
  all_goals refine aT ?_
  all_goals refine finF (.v rfl (Conv.of rfl)) rfl ?_ (by intro o ho; by_cases e : o = 9 <;> first | (exfalso; subst e; rw [hf] at ho; exact absurd ho (by decide)) | simp only [st0, St.upd, lk, orr, if_neg e]) hH
  all_goals (simp_all [FV.av, late])
theorem nodeOk_ct (n : Nod) : CtP Tryz.prog 100 [.v n] (.v (nodeOk n)) := by
  refine Ct.intro Tryz.func100 rfl rfl ?_
  all_goals refine aS (aR ?_)
  all_goals refine oC (op_box (o := 0) ty90 rfl (Conv.of rfl) rfl rfl) ?_
  all_goals refine oC (oA rfl (Conv.of rfl) rfl) ?_
  all_goals refine oN ?_
  refine aS (aST (s' := mkSt 38 [(1, .box 0 (IsLens.whole Nod)), (32, .v (!nodeOk0 n))] [(0, .cell n)]) ?_ ?_)
  · all_goals refine aR ?_
    all_goals refine oC (oF f90_0 rfl rfl) ?_
    all_goals refine oC (oD ty3 rfl rfl rfl) ?_
    all_goals refine oC (oL fb112 (.cons rfl (Conv.of rfl) (.nil _)) (nodeIdOk_ct _) (aK rfl rfl aK0) rfl rfl) ?_
    all_goals refine oC (op_not rfl rfl) ?_
    all_goals refine oC (oM rfl (Conv.of rfl) rfl) ?_
    all_goals refine g_split (t := 7) rfl (fun h => ?_) (fun h => ?_)
    all_goals first | refine oC (gF rfl rfl rfl rfl rfl) ?_ | refine oC (gN rfl rfl rfl (oF f90_1 rfl rfl)) ?_
    all_goals first | refine oC (gF rfl rfl rfl rfl rfl) ?_ | refine oC (gN rfl rfl rfl (oD ty3 rfl rfl rfl)) ?_
    all_goals first | refine oC (gF rfl rfl rfl rfl rfl) ?_ | refine oC (gN rfl rfl rfl (oL fb98 (.cons rfl (Conv.of rfl) (.cons rfl (Conv.of rfl) (.cons rfl (Conv.of rfl) (.nil _)))) (within_ct _ _ _) (aK rfl rfl (aK rfl rfl (aK rfl rfl aK0))) rfl rfl)) ?_
    all_goals first | refine oC (gF rfl rfl rfl rfl rfl) ?_ | refine oC (gN rfl rfl rfl (op_not rfl rfl)) ?_
    all_goals refine oC (oQ rfl rfl rfl rfl) ?_
    all_goals refine oC (oM rfl (Conv.of rfl) rfl) ?_
    all_goals first | refine g_lit (t := 13) (b := true) rfl ?_ | refine g_split (t := 13) rfl (fun h => ?_) (fun h => ?_)
    all_goals first | refine oC (gF rfl rfl rfl rfl rfl) ?_ | refine oC (gN rfl rfl rfl (oF f90_2 rfl rfl)) ?_
    all_goals first | refine oC (gF rfl rfl rfl rfl rfl) ?_ | refine oC (gN rfl rfl rfl (oD ty3 rfl rfl rfl)) ?_
    all_goals first | refine oC (gF rfl rfl rfl rfl rfl) ?_ | refine oC (gN rfl rfl rfl (oF f90_1 rfl rfl)) ?_
    all_goals first | refine oC (gF rfl rfl rfl rfl rfl) ?_ | refine oC (gN rfl rfl rfl (oD ty3 rfl rfl rfl)) ?_
    all_goals first | refine oC (gF rfl rfl rfl rfl rfl) ?_ | refine oC (gN rfl rfl rfl (oL fb98 (.cons rfl (Conv.of rfl) (.cons rfl (Conv.of rfl) (.cons rfl (Conv.of rfl) (.nil _)))) (within_ct _ _ _) (aK rfl rfl (aK rfl rfl (aK rfl rfl aK0))) rfl rfl)) ?_
    all_goals first | refine oC (gF rfl rfl rfl rfl rfl) ?_ | refine oC (gN rfl rfl rfl (op_not rfl rfl)) ?_
    all_goals refine oC (oQ rfl rfl rfl rfl) ?_
    all_goals refine oC (oM rfl (Conv.of rfl) rfl) ?_
    all_goals first | refine g_lit (t := 21) (b := true) rfl ?_ | refine g_split (t := 21) rfl (fun h => ?_) (fun h => ?_)
    all_goals first | refine oC (gF rfl rfl rfl rfl rfl) ?_ | refine oC (gN rfl rfl rfl (oF f90_3 rfl rfl)) ?_
    all_goals first | refine oC (gF rfl rfl rfl rfl rfl) ?_ | refine oC (gN rfl rfl rfl (oD ty24 rfl rfl rfl)) ?_
    all_goals first | refine oC (gF rfl rfl rfl rfl rfl) ?_ | refine oC (gN rfl rfl rfl (oE sl24 rfl rfl)) ?_
    all_goals first | refine oC (gF rfl rfl rfl rfl rfl) ?_ | refine oC (gN rfl rfl rfl (op_gtr rfl rfl rfl)) ?_
    all_goals refine oC (oQ rfl rfl rfl rfl) ?_
    all_goals refine oC (oM rfl (Conv.of rfl) rfl) ?_
    all_goals first | refine g_lit (t := 27) (b := true) rfl ?_ | refine g_split (t := 27) rfl (fun h => ?_) (fun h => ?_)
    all_goals first | refine oC (gF rfl rfl rfl rfl rfl) ?_ | refine oC (gN rfl rfl rfl (oF f90_3 rfl rfl)) ?_
    all_goals first | refine oC (gF rfl rfl rfl rfl rfl) ?_ | refine oC (gN rfl rfl rfl (oD ty24 rfl rfl rfl)) ?_
    all_goals first | refine oC (gF rfl rfl rfl rfl rfl) ?_ | refine oC (gN rfl rfl rfl (oL fb99 (.cons rfl (Conv.of rfl) (.nil _)) (votesOk_ct _) (aK rfl rfl aK0) rfl rfl)) ?_
    all_goals first | refine oC (gF rfl rfl rfl rfl rfl) ?_ | refine oC (gN rfl rfl rfl (op_not rfl rfl)) ?_
    all_goals refine oC (oQ rfl rfl rfl rfl) ?_
    all_goals refine oN ?_
    all_goals exact Le.mk rfl (tlb rfl rfl rfl (tle rfl (by (simp_all [nodeOk0] <;> omega)) rfl tln)) (olk rfl (by exact bC) oln) noS
  refine aC rfl (fun h => ?_) (fun h => ?_)
  · all_goals refine aS (aR ?_)
    all_goals refine oC (oA rfl (Conv.of rfl) rfl) ?_
    all_goals refine oN ?_
    refine aT ?_
    repeat first | refine rS ?_ | refine rB ?_
    refine finP (.v rfl (Conv.of rfl)) rfl ?_
    show AV.v false = _
    simp [nodeOk, not_t h]
  · refine aW ?_
    have h0 := not_f h
    have hvo : votesOk n.seen = true := by simp only [nodeOk0, Bool.and_eq_true] at h0; exact h0.2
    all_goals refine aS (aR ?_)
    all_goals refine oC (oF f90_3 rfl rfl) ?_
    all_goals refine oC (oD ty24 rfl rfl rfl) ?_
    all_goals refine oC (op_mf (f := 149) .nil (.cons (r := .box 0 (IsLens.whole Nod)) rfl (Conv.of rfl) .nil) rfl) ?_
    all_goals refine awpOps_callH rfl (fb44) (.cons rfl (Conv.of rfl) (.cons rfl (Conv.of rfl) (.nil _))) rfl (containsV_ct _ _ [] [.box 0 (IsLens.whole Nod)] _ (late n) (fb149) (fun x hx => lateFn_ct x (voteOk_pos (votesOk_mem hvo x hx)) _ n rfl rfl (fun o => by by_cases e : o = 0 <;> simp [mkSt, st0, St.upd, lk, lk0, orr, e, obOk, noObj] <;> exact plain_refs _)) (by intro z hz; simp [avs, FV.av] at hz; subst hz; exact ⟨rfl, fun o ho => by simp [AV.refs] at ho; subst ho; rfl⟩) (fun o => by by_cases e : o = 0 <;> simp [mkSt, st0, St.upd, lk, lk0, orr, e, obOk, noObj] <;> exact plain_refs _)) (Hand.none (Hand.l1 (Hand.of rfl rfl) (Hand.l1 ⟨rfl, fun o ho => by simp [AV.refs, FV.refs] at ho; subst ho; rfl⟩ Hand.l0))) (fun o => by by_cases e : o = 0 <;> simp [mkSt, st0, St.upd, lk, lk0, orr, e, obOk, noObj] <;> exact plain_refs _) rfl rfl ?_
    all_goals refine oC (op_not rfl rfl) ?_
    all_goals refine oC (oA rfl (Conv.of rfl) rfl) ?_
    all_goals refine oN ?_
    refine aT ?_
    repeat first | refine rS ?_ | refine rB ?_
    refine finP (.v rfl (Conv.of rfl)) rfl ?_
    show AV.v _ = _
    rw [nodeOk, h0, Bool.true_and]
theorem nodeCopied_ct (n : Nod) (hn : Gd n.seen) : CtP Tryz.prog 125 [.v n] (.v n) := by
  refine Ct.intro Tryz.func125 rfl rfl ?_
  refine aS (aR ?_)
  refine oC (op_box (o := 0) ty90 rfl (Conv.of rfl) rfl rfl) ?_
  refine oC (oX (o := 1) z90 rfl rfl) ?_
  refine oN ?_
  refine aS (aR ?_)
  refine oC (oF f90_3 rfl rfl) ?_
  refine oC (oD ty24 rfl rfl rfl) ?_
  refine oC (oL fb124 (.cons rfl (Conv.of rfl) (.nil _)) (votesCopied_ct _ hn.l' hn.v) (aK rfl rfl aK0) rfl rfl) ?_
  refine oC (oF f90_3 rfl rfl) ?_
  refine oC (op_st ty24 rfl rfl (Conv.ol) rfl) ?_
  refine oN ?_
  refine aS (aR ?_)
  refine oC (oD ty90 rfl rfl rfl) ?_
  refine oC (op_st ty90 rfl rfl (Conv.of rfl) rfl) ?_
  refine oN ?_
  refine aT ?_
  repeat first | refine rS ?_ | refine rB ?_
  exact finP (.rc ty90 rfl rfl) rfl rfl
theorem enter_ct (n : Nod) (e : Int) (hn : 0 ≤ n.epoch ∧ n.epoch ≤ 30) : CtP Tryz.prog 154 [.v n, .v e] (.v (enterF n e)) := by
  refine Ct.intro Tryz.func154 rfl rfl ?_
  refine aS (aR ?_)
  refine oC (op_box (o := 0) ty90 rfl (Conv.of rfl) rfl rfl) ?_
  refine oC (oX (o := 1) z90 rfl rfl) ?_
  refine oN ?_
  refine aS (aS (aR ?_))
  refine oC (oM rfl (Conv.of rfl) rfl) ?_
  refine oC (oF f90_1 rfl rfl) ?_
  refine oC (oD ty3 rfl rfl rfl) ?_
  refine oC (oP rfl rfl rfl (by omega)) ?_
  refine oC (oL fb98 (.cons rfl (Conv.of rfl) (.cons rfl (Conv.of rfl) (.cons rfl (Conv.of rfl) (.nil _)))) (within_ct _ _ _) (aK rfl rfl (aK rfl rfl (aK rfl rfl aK0))) rfl rfl) ?_
  refine oN ?_
  refine aC rfl (fun h => ?_) (fun h => ?_)
  · refine aR ?_
    refine oC (oM rfl (Conv.of rfl) rfl) ?_
    refine oC (oF f90_1 rfl rfl) ?_
    refine oC (op_st ty3 rfl rfl (Conv.of rfl) rfl) ?_
    refine oN ?_
    refine aS (aR ?_)
    refine oC (oD ty90 rfl rfl rfl) ?_
    refine oC (op_st ty90 rfl rfl (Conv.of rfl) rfl) ?_
    refine oN ?_
    refine aT ?_
    repeat first | refine rS ?_ | refine rB ?_
    refine finP (.rc ty90 rfl rfl) rfl ?_
    show AV.v _ = _
    simp [enterF, h]
  · refine aW ?_
    refine aS (aR ?_)
    refine oC (oD ty90 rfl rfl rfl) ?_
    refine oC (op_st ty90 rfl rfl (Conv.of rfl) rfl) ?_
    refine oN ?_
    refine aT ?_
    repeat first | refine rS ?_ | refine rB ?_
    refine finP (.rc ty90 rfl rfl) rfl ?_
    show AV.v _ = _
    simp [enterF, h]
theorem may_ct (n : Nod) : CtP Tryz.prog 172 [.v n] (.v (mayN n)) := by
  refine Ct.intro Tryz.func172 rfl rfl ?_
  all_goals refine aS (aR ?_)
  all_goals refine oC (op_box (o := 0) ty90 rfl (Conv.of rfl) rfl rfl) ?_
  all_goals refine oC (oA rfl (Conv.of rfl) rfl) ?_
  all_goals refine oN ?_
  all_goals refine aS (aR ?_)
  all_goals refine oC (oF f90_1 rfl rfl) ?_
  all_goals refine oC (oD ty3 rfl rfl rfl) ?_
  all_goals refine oC (op_gtr rfl rfl rfl) ?_
  all_goals refine oC (oM rfl (Conv.of rfl) rfl) ?_
  all_goals refine g_split (t := 6) rfl (fun h => ?_) (fun h => ?_)
  all_goals first | refine oC (gF rfl rfl rfl rfl rfl) ?_ | refine oC (gN rfl rfl rfl (oF f90_2 rfl rfl)) ?_
  all_goals first | refine oC (gF rfl rfl rfl rfl rfl) ?_ | refine oC (gN rfl rfl rfl (oD ty3 rfl rfl rfl)) ?_
  all_goals first | refine oC (gF rfl rfl rfl rfl rfl) ?_ | refine oC (gN rfl rfl rfl (oF f90_1 rfl rfl)) ?_
  all_goals first | refine oC (gF rfl rfl rfl rfl rfl) ?_ | refine oC (gN rfl rfl rfl (oD ty3 rfl rfl rfl)) ?_
  all_goals first | refine oC (gF rfl rfl rfl rfl rfl) ?_ | refine oC (gN rfl rfl rfl (op_neq rfl rfl rfl)) ?_
  all_goals refine oC (oQ rfl rfl rfl rfl) ?_
  all_goals refine oC (oA rfl (Conv.of rfl) rfl) ?_
  all_goals refine oN ?_
  all_goals refine aT ?_
  all_goals refine finP (.v rfl (Conv.of rfl)) rfl ?_
  all_goals (simp_all [FV.av, mayN] <;> omega)
theorem nvote_ct (n : Nod) (c : List Itm) (hn : Gd n.seen) (hc : c.length ≤ 1000000) : CtP Tryz.prog 173 [.v n, .v c] (res3 (voteF n c)) := by
  refine Ct.intro Tryz.func173 rfl rfl ?_
  refine aS (aR ?_)
  refine oC (op_box (o := 0) ty90 rfl (Conv.of rfl) rfl rfl) ?_
  refine oC (oX (o := 1) z90 rfl rfl) ?_
  refine oC (oX (o := 2) z38 rfl rfl) ?_
  refine oC (oA rfl (Conv.of rfl) rfl) ?_
  refine oN ?_
  refine aS (aS (aR ?_))
  refine oC (oF f90_3 rfl rfl) ?_
  refine oC (oD ty24 rfl rfl rfl) ?_
  refine oC (oE sl24 rfl rfl) ?_
  refine oC (op_geq rfl rfl rfl) ?_
  refine oN ?_
  refine aC rfl (fun h => ?_) (fun h => ?_)
  · have h' : decide (80 ≤ n.seen.length) = true := by simp at h ⊢; omega
    refine aS (aR ?_)
    refine oC (oD ty90 rfl rfl rfl) ?_
    refine oC (op_build (.nil _) z38 rfl pl38 rfl) ?_
    refine oC (op_st ty90 rfl rfl (Conv.of rfl) rfl) ?_
    refine oC (op_st ty38 rfl rfl (Conv.of rfl) rfl) ?_
    refine oC (oA rfl (Conv.of rfl) rfl) ?_
    refine oN ?_
    refine aT ?_
    repeat first | refine rS ?_ | refine rB ?_
    refine finN (.cons (.rc ty90 rfl rfl) (.cons (.rc ty38 rfl rfl) (.cons (.v rfl (Conv.of rfl)) .nil))) rfl rfl ?_
    simp only [voteF, h', if_true]; rfl
  · have h' : decide (80 ≤ n.seen.length) = false := by simp at h ⊢; omega
    refine aW ?_
    refine aS (aR ?_)
    refine oC (oF f90_0 rfl rfl) ?_
    refine oC (oD ty3 rfl rfl rfl) ?_
    refine oC (oM rfl (Conv.of rfl) rfl) ?_
    refine oC (op_build (.cons f38_0 rfl (Conv.of rfl) (.cons f38_1 rfl (Conv.of rfl) (.nil _))) z38 rfl pl38 rfl) ?_
    refine oC (oX (o := 3) z38 rfl rfl) ?_
    refine oC (op_st ty38 rfl rfl (Conv.of rfl) rfl) ?_
    refine oN ?_
    refine aS (aR ?_)
    refine oC (oF f90_1 rfl rfl) ?_
    refine oC (oD ty3 rfl rfl rfl) ?_
    refine oC (oF f90_2 rfl rfl) ?_
    refine oC (op_st ty3 rfl rfl (Conv.of rfl) rfl) ?_
    refine oN ?_
    refine aS (aR ?_)
    refine oC (oF f90_3 rfl rfl) ?_
    refine oC (oD ty24 rfl rfl rfl) ?_
    refine oC (oD ty38 rfl rfl rfl) ?_
    refine oC (oL fb158 (.cons rfl (Conv.of rfl) (.cons rfl (Conv.of rfl) (.nil _))) (with_ct _ ⟨n.id, c⟩ hn.l' hc) (aK rfl rfl (aK rfl rfl aK0)) rfl rfl) ?_
    refine oC (oF f90_3 rfl rfl) ?_
    refine oC (op_st ty24 rfl rfl (Conv.cl) rfl) ?_
    refine oN ?_
    refine aS (dS ?_)
    refine dC (oD ty90 rfl rfl rfl) ?_
    refine dC (oD ty38 rfl rfl rfl) ?_
    refine dC (oL fb159 (.cons rfl (Conv.of rfl) (.nil _)) (voteCopied_ct ⟨n.id, c⟩ hc) (aK rfl rfl aK0) rfl rfl) ?_
    refine dC (op_st ty90 rfl rfl (Conv.of rfl) rfl) ?_
    refine dC (op_st ty38 rfl rfl (Conv.of rfl) rfl) ?_
    refine dC (oA rfl (Conv.of rfl) rfl) ?_
    refine dr_nil mixed rfl ?_
    refine aT ?_
    repeat first | refine rS ?_ | refine rB ?_
    refine finN (.cons (.rc ty90 rfl rfl) (.cons (.rc ty38 rfl rfl) (.cons (.v rfl (Conv.of rfl)) .nil))) rfl rfl ?_
    simp only [voteF, h']; rfl
set_option maxHeartbeats 1000000 in
theorem npropose_ct (n : Nod) (p : Pay) (hn : Gd n.seen) : CtP Tryz.prog 156 [.v n, .v p] (res3 (proposeF n p)) := by
  have htip := hn.tip
  refine Ct.intro Tryz.func156 rfl rfl ?_
  all_goals refine aS (aR ?_)
  all_goals refine oC (op_box (o := 0) ty90 rfl (Conv.of rfl) rfl rfl) ?_
  all_goals refine oC (op_box (o := 1) ty75 rfl (Conv.of rfl) rfl rfl) ?_
  all_goals refine oC (oX (o := 2) z90 rfl rfl) ?_
  all_goals refine oC (oX (o := 3) z38 rfl rfl) ?_
  all_goals refine oC (oA rfl (Conv.of rfl) rfl) ?_
  all_goals refine oN ?_
  all_goals refine aS (dS ?_)
  all_goals refine dC (oF f90_3 rfl rfl) ?_
  all_goals refine dC (oD ty24 rfl rfl rfl) ?_
  all_goals refine dC (oL fb171 (.cons rfl (Conv.of rfl) (.nil _)) (tip_ct _ hn.l hn.v) (aK rfl rfl aK0) rfl rfl) ?_
  all_goals refine dC (oF f90_1 rfl rfl) ?_
  all_goals refine dC (oD ty3 rfl rfl rfl) ?_
  all_goals refine dC (oD ty75 rfl rfl rfl) ?_
  all_goals refine dC (op_build (.cons f143_0 rfl (Conv.of rfl) (.cons f143_1 rfl (Conv.of rfl) (.nil _))) z143 rfl pl143 rfl) ?_
  all_goals refine dC (op_bsl sl27 z143 (.cons rfl (Conv.of rfl) (.nil _)) rfl (by decide) rfl) ?_
  all_goals refine dC (op_app sl27 z143 ul27 rfl rfl rfl (by (simp; omega)) (by (simp; omega)) rfl rfl) ?_
  all_goals refine dC (op_asl rfl rfl rfl rfl) ?_
  all_goals refine dr_nil mixed rfl ?_
  refine aS (aST (s' := mkSt 41 [(2, .box 0 (IsLens.whole Nod)), (4, .box 2 (IsLens.whole Nod)), (5, .box 3 (IsLens.whole Vote)), (6, .v false), (7, .v (OList.mk (tipOf n.seen ++ [⟨n.epoch, p⟩]) true)), (32, .v (!(mayN n && decide (leader n.epoch = n.id) && chainOk (tipOf n.seen ++ [⟨n.epoch, p⟩]))))] [(0, .cell n), (2, .cell Nod.zero), (3, .cell Vote.zero)]) ?_ ?_)
  · all_goals refine dS ?_
    all_goals refine dC (oD ty90 rfl rfl rfl) ?_
    all_goals refine dC (oL fb172 (.cons rfl (Conv.of rfl) (.nil _)) (may_ct _) (aK rfl rfl aK0) rfl rfl) ?_
    all_goals refine dC (op_not rfl rfl) ?_
    all_goals refine dC (oM rfl (Conv.of rfl) rfl) ?_
    all_goals refine dr_split (t := 20) rfl (fun h => ?_) (fun h => ?_)
    all_goals first | refine dC (gF rfl rfl rfl rfl rfl) ?_ | refine dC (gN rfl rfl rfl (oF f90_1 rfl rfl)) ?_
    all_goals first | refine dC (gF rfl rfl rfl rfl rfl) ?_ | refine dC (gN rfl rfl rfl (oD ty3 rfl rfl rfl)) ?_
    all_goals first | refine dC (gF rfl rfl rfl rfl rfl) ?_ | refine dC (gN rfl rfl rfl (oL fb137 (.cons rfl (Conv.of rfl) (.nil _)) (leader_ct _) (aK rfl rfl aK0) rfl rfl)) ?_
    all_goals first | refine dC (gF rfl rfl rfl rfl rfl) ?_ | refine dC (gN rfl rfl rfl (oF f90_0 rfl rfl)) ?_
    all_goals first | refine dC (gF rfl rfl rfl rfl rfl) ?_ | refine dC (gN rfl rfl rfl (oD ty3 rfl rfl rfl)) ?_
    all_goals first | refine dC (gF rfl rfl rfl rfl rfl) ?_ | refine dC (gN rfl rfl rfl (op_neq rfl rfl rfl)) ?_
    all_goals refine dC (oQ rfl rfl rfl rfl) ?_
    all_goals refine dC (oM rfl (Conv.of rfl) rfl) ?_
    all_goals first | refine dr_lit (t := 28) (b := true) rfl ?_ | refine dr_split (t := 28) rfl (fun h => ?_) (fun h => ?_)
    all_goals first | refine dC (gF rfl rfl rfl rfl rfl) ?_ | refine dC (gN rfl rfl rfl (oM rfl Conv.ol rfl)) ?_
    all_goals first | refine dC (gF rfl rfl rfl rfl rfl) ?_ | refine dC (gN rfl rfl rfl (oL fb53 (.cons rfl (Conv.of rfl) (.nil _)) (chainOk_ct _) (aK rfl rfl aK0) rfl rfl)) ?_
    all_goals first | refine dC (gF rfl rfl rfl rfl rfl) ?_ | refine dC (gN rfl rfl rfl (op_not rfl rfl)) ?_
    all_goals refine dC (oQ rfl rfl rfl rfl) ?_
    all_goals refine dr_nil mixed rfl ?_
    all_goals exact Le.mk rfl (tlb rfl rfl rfl (tlb rfl rfl rfl (tlb rfl rfl rfl (tle rfl (rfl) rfl (tle rfl (rfl) rfl (tle rfl (by (clear htip; simp_all)) rfl tln)))))) (olk rfl (by exact bC) (olk rfl (by exact bC) (olk rfl (by exact bC) oln))) noS
  refine aC rfl (fun h => ?_) (fun h => ?_)
  · all_goals refine aS (aR ?_)
    all_goals refine oC (oD ty90 rfl rfl rfl) ?_
    all_goals refine oC (op_build (.nil _) z38 rfl pl38 rfl) ?_
    all_goals refine oC (op_st ty90 rfl rfl (Conv.of rfl) rfl) ?_
    all_goals refine oC (op_st ty38 rfl rfl (Conv.of rfl) rfl) ?_
    all_goals refine oC (oA rfl (Conv.of rfl) rfl) ?_
    all_goals refine oN ?_
    refine aT ?_
    repeat first | refine rS ?_ | refine rB ?_
    refine finN (.cons (.rc ty90 rfl rfl) (.cons (.rc ty38 rfl rfl) (.cons (.v rfl (Conv.of rfl)) .nil))) rfl rfl ?_
    have h' := not_t h
    rw [proposeF, h']; rfl
  · have h' := not_f h
    refine aW ?_
    all_goals refine aS (aR ?_)
    all_goals refine oC (oD ty90 rfl rfl rfl) ?_
    all_goals refine oC (oM rfl Conv.ol rfl) ?_
    all_goals refine oC (oL fb173 (.cons rfl (Conv.of rfl) (.cons rfl (Conv.of rfl) (.nil _))) (nvote_ct _ _ hn (by simp; omega)) (aK rfl rfl (aK rfl rfl aK0)) rfl rfl) ?_
    all_goals refine oC (op_ext rfl rfl rfl) ?_
    all_goals refine oC (op_ext rfl rfl rfl) ?_
    all_goals refine oC (op_ext rfl rfl rfl) ?_
    all_goals refine oC (op_st ty90 rfl rfl (Conv.of rfl) rfl) ?_
    all_goals refine oC (op_st ty38 rfl rfl (Conv.of rfl) rfl) ?_
    all_goals refine oC (oA rfl (Conv.of rfl) rfl) ?_
    all_goals refine oN ?_
    refine aT ?_
    repeat first | refine rS ?_ | refine rB ?_
    refine finN (.cons (.rc ty90 rfl rfl) (.cons (.rc ty38 rfl rfl) (.cons (.v rfl (Conv.of rfl)) .nil))) rfl rfl ?_
    rw [proposeF, h']; rfl
end Go.Proofs.YtmhmeppocbcmeaaGreat

/- A node hears a vote. -/
set_option linter.unusedVariables false
set_option linter.unusedSimpArgs false
namespace Go.Proofs.YtmhmeppocbcmeaaGreat
open Go Go.Wt
set_option maxHeartbeats 2000000 in
theorem nhear_ct (n : Nod) (v : Vote) (hn : Gd n.seen) : CtP Tryz.prog 157 [.v n, .v v] (res3 (hearF n v)) := by
  refine Ct.intro Tryz.func157 rfl rfl ?_
  all_goals refine aS (aR ?_)
  all_goals refine oC (op_box (o := 0) ty90 rfl (Conv.of rfl) rfl rfl) ?_
  all_goals refine oC (op_box (o := 1) ty38 rfl (Conv.of rfl) rfl rfl) ?_
  all_goals refine oC (oX (o := 2) z90 rfl rfl) ?_
  all_goals refine oC (oX (o := 3) z38 rfl rfl) ?_
  all_goals refine oC (oA rfl (Conv.of rfl) rfl) ?_
  all_goals refine oN ?_
  refine aS (aST (s' := mkSt 99 [(2, .box 0 (IsLens.whole Nod)), (3, .box 1 (IsLens.whole Vote)), (4, .box 2 (IsLens.whole Nod)), (5, .box 3 (IsLens.whole Vote)), (6, .v false), (28, .v (!(voteOk v && !decide (v.by_ = n.id) && decide (n.seen.length < 80))))] [(0, .cell n), (1, .cell v), (2, .cell Nod.zero), (3, .cell Vote.zero)]) ?_ ?_)
  · all_goals refine aR ?_
    all_goals refine oC (oD ty38 rfl rfl rfl) ?_
    all_goals refine oC (oL fb122 (.cons rfl (Conv.of rfl) (.nil _)) (voteOk_ct _) (aK rfl rfl aK0) rfl rfl) ?_
    all_goals refine oC (op_not rfl rfl) ?_
    all_goals refine oC (oM rfl (Conv.of rfl) rfl) ?_
    all_goals refine g_split (t := 16) rfl (fun h => ?_) (fun h => ?_)
    all_goals first | refine oC (gF rfl rfl rfl rfl rfl) ?_ | refine oC (gN rfl rfl rfl (oF f38_0 rfl rfl)) ?_
    all_goals first | refine oC (gF rfl rfl rfl rfl rfl) ?_ | refine oC (gN rfl rfl rfl (oD ty3 rfl rfl rfl)) ?_
    all_goals first | refine oC (gF rfl rfl rfl rfl rfl) ?_ | refine oC (gN rfl rfl rfl (oF f90_0 rfl rfl)) ?_
    all_goals first | refine oC (gF rfl rfl rfl rfl rfl) ?_ | refine oC (gN rfl rfl rfl (oD ty3 rfl rfl rfl)) ?_
    all_goals first | refine oC (gF rfl rfl rfl rfl rfl) ?_ | refine oC (gN rfl rfl rfl (op_eql rfl rfl rfl)) ?_
    all_goals refine oC (oQ rfl rfl rfl rfl) ?_
    all_goals refine oC (oM rfl (Conv.of rfl) rfl) ?_
    all_goals first | refine g_lit (t := 23) (b := true) rfl ?_ | refine g_split (t := 23) rfl (fun h => ?_) (fun h => ?_)
    all_goals first | refine oC (gF rfl rfl rfl rfl rfl) ?_ | refine oC (gN rfl rfl rfl (oF f90_3 rfl rfl)) ?_
    all_goals first | refine oC (gF rfl rfl rfl rfl rfl) ?_ | refine oC (gN rfl rfl rfl (oD ty24 rfl rfl rfl)) ?_
    all_goals first | refine oC (gF rfl rfl rfl rfl rfl) ?_ | refine oC (gN rfl rfl rfl (oE sl24 rfl rfl)) ?_
    all_goals first | refine oC (gF rfl rfl rfl rfl rfl) ?_ | refine oC (gN rfl rfl rfl (op_geq rfl rfl rfl)) ?_
    all_goals refine oC (oQ rfl rfl rfl rfl) ?_
    all_goals refine oN ?_
    all_goals exact Le.mk rfl (tlb rfl rfl rfl (tlb rfl rfl rfl (tlb rfl rfl rfl (tlb rfl rfl rfl (tle rfl (rfl) rfl (tle rfl (by (simp_all; try (rw [Bool.eq_iff_iff]; simp; try omega))) rfl tln)))))) (olk rfl (by exact bC) (olk rfl (by exact bC) (olk rfl (by exact bC) (olk rfl (by exact bC) oln)))) noS
  refine aC rfl (fun h => ?_) (fun h => ?_)
  · all_goals refine aS (aR ?_)
    all_goals refine oC (oD ty90 rfl rfl rfl) ?_
    all_goals refine oC (op_build (.nil _) z38 rfl pl38 rfl) ?_
    all_goals refine oC (op_st ty90 rfl rfl (Conv.of rfl) rfl) ?_
    all_goals refine oC (op_st ty38 rfl rfl (Conv.of rfl) rfl) ?_
    all_goals refine oC (oA rfl (Conv.of rfl) rfl) ?_
    all_goals refine oN ?_
    refine aT ?_
    repeat first | refine rS ?_ | refine rB ?_
    refine finN (.cons (.rc ty90 rfl rfl) (.cons (.rc ty38 rfl rfl) (.cons (.v rfl (Conv.of rfl)) .nil))) rfl rfl ?_
    rw [hearF, not_t h]; rfl
  · have h0 := not_f h
    refine aW ?_
    have h0' := h0
    simp only [Bool.and_eq_true] at h0'
    have hvo : voteOk v = true := h0'.1.1
    have hlen : n.seen.length < 80 := by simpa using h0'.2
    have hgd := seeF_gd hn hvo hlen
    refine aST (s' := mkSt 99 [(2, .box 0 (IsLens.whole Nod)), (4, .box 2 (IsLens.whole Nod)), (5, .box 3 (IsLens.whole Vote)), (6, .v false)] [(0, .cell (seeF n v)), (2, .cell Nod.zero), (3, .cell Vote.zero)]) ?_ ?_
    · all_goals refine aS (aR ?_)
      all_goals refine oC (oF f90_3 rfl rfl) ?_
      all_goals refine oC (oD ty24 rfl rfl rfl) ?_
      all_goals refine oC (oD ty38 rfl rfl rfl) ?_
      all_goals refine oC (oL fb103 (.cons rfl (Conv.of rfl) (.cons rfl (Conv.of rfl) (.nil _))) (has_ct _ _) (aK rfl rfl (aK rfl rfl aK0)) rfl rfl) ?_
      all_goals refine oC (op_not rfl rfl) ?_
      all_goals refine oN ?_
      refine aC rfl (fun hb => ?_) (fun hb => ?_)
      · have hb' : ¬ v ∈ n.seen := by simpa using hb
        all_goals refine aR ?_
        all_goals refine oC (oF f90_3 rfl rfl) ?_
        all_goals refine oC (oD ty24 rfl rfl rfl) ?_
        all_goals refine oC (oD ty38 rfl rfl rfl) ?_
        all_goals refine oC (oL fb158 (.cons rfl (Conv.of rfl) (.cons rfl (Conv.of rfl) (.nil _))) (with_ct _ _ hn.l' (voteOk_len hvo)) (aK rfl rfl (aK rfl rfl aK0)) rfl rfl) ?_
        all_goals refine oC (oF f90_3 rfl rfl) ?_
        all_goals refine oC (op_st ty24 rfl rfl (Conv.cl) rfl) ?_
        all_goals refine oN ?_
        all_goals exact Le.mk rfl (tlb rfl rfl rfl (tlb rfl rfl rfl (tlb rfl rfl rfl (tle rfl (rfl) rfl tln)))) (olk (by (simp [seeF, *]; try rfl)) (by exact bC) (olk rfl (by exact bC) (olk rfl (by exact bC) oln))) noS
      · have hb' : v ∈ n.seen := by simpa using hb
        refine aW ?_
        all_goals exact Le.mk rfl (tlb rfl rfl rfl (tlb rfl rfl rfl (tlb rfl rfl rfl (tle rfl (rfl) rfl tln)))) (olk (by (simp [seeF, *]; try rfl)) (by exact bC) (olk rfl (by exact bC) (olk rfl (by exact bC) oln))) noS
    · generalize hm : seeF n v = m at *
      all_goals refine aS (aS (aR ?_))
      all_goals refine oC (oD ty90 rfl rfl rfl) ?_
      all_goals refine oC (oL fb172 (.cons rfl (Conv.of rfl) (.nil _)) (may_ct _) (aK rfl rfl aK0) rfl rfl) ?_
      all_goals refine oC (op_not rfl rfl) ?_
      all_goals refine oN ?_
      refine aC rfl (fun hb => ?_) (fun hb => ?_)
      · all_goals refine aS (aR ?_)
        all_goals refine oC (oD ty90 rfl rfl rfl) ?_
        all_goals refine oC (op_build (.nil _) z38 rfl pl38 rfl) ?_
        all_goals refine oC (op_st ty90 rfl rfl (Conv.of rfl) rfl) ?_
        all_goals refine oC (op_st ty38 rfl rfl (Conv.of rfl) rfl) ?_
        all_goals refine oC (oA rfl (Conv.of rfl) rfl) ?_
        all_goals refine oN ?_
        refine aT ?_
        repeat first | refine rS ?_ | refine rB ?_
        refine finN (.cons (.rc ty90 rfl rfl) (.cons (.rc ty38 rfl rfl) (.cons (.v rfl (Conv.of rfl)) .nil))) rfl rfl ?_
        rw [hearF, h0, hm, not_t hb]; rfl
      · have hres : hearF n v = tryF m m.seen := by rw [hearF, h0, hm, not_f hb]; rfl
        rw [hres]
        refine aW ?_
        all_goals refine aS (aR ?_)
        all_goals refine oC (oF f90_3 rfl rfl) ?_
        all_goals refine oC (oD ty24 rfl rfl rfl) ?_
        all_goals refine oC (oA rfl (Conv.of rfl) rfl) ?_
        all_goals refine oN ?_
        all_goals refine aS (dS ?_)
        all_goals refine dC (oM rfl (Conv.of rfl) rfl) ?_
        all_goals refine dC (oL fb171 (.cons rfl (Conv.of rfl) (.nil _)) (tip_ct _ hgd.l hgd.v) (aK rfl rfl aK0) rfl rfl) ?_
        all_goals refine dC (oE sl27 rfl rfl) ?_
        all_goals refine dC (oF f90_1 rfl rfl) ?_
        all_goals refine dC (oD ty3 rfl rfl rfl) ?_
        all_goals refine dC (oL fb137 (.cons rfl (Conv.of rfl) (.nil _)) (leader_ct _) (aK rfl rfl aK0) rfl rfl) ?_
        all_goals refine dC (oA rfl (Conv.of rfl) rfl) ?_
        all_goals refine dC (oA rfl (Conv.of rfl) rfl) ?_
        all_goals refine dr_nil mixed rfl ?_
        all_goals refine aS (aS (aR ?_))
        all_goals refine oC (oM rfl (Conv.of rfl) rfl) ?_
        all_goals refine oC (oE sl141 rfl rfl) ?_
        all_goals refine oC (oM rfl (Conv.of rfl) rfl) ?_
        all_goals refine oN ?_
        refine aB ?_
        refine awp_loop' (fun n_ s => ∃ (k : Nat), ∃ (hn : n_ + k = m.seen.length), ∃ (hall : tryF m m.seen = tryF m (m.seen.drop k)), s = mkSt 99 [(2, .box 0 (IsLens.whole Nod)), (4, .box 2 (IsLens.whole Nod)), (5, .box 3 (IsLens.whole Vote)), (6, .v false), (7, .v m.seen), (8, .v ((tipOf m.seen).length : Int)), (9, .v (leader m.epoch)), (54, .v m.seen), (55, .v (m.seen.length : Int)), (56, .v (k : Int))] [(0, .cell m), (2, .cell Nod.zero), (3, .cell Vote.zero)]) (m.seen.length) ⟨0, by omega, rfl, rfl⟩ (Le.mk rfl (tlb rfl rfl rfl (tlb rfl rfl rfl (tlb rfl rfl rfl (tle rfl (rfl) rfl (tle rfl (rfl) rfl (tle rfl (rfl) rfl (tle rfl (rfl) rfl (tle rfl (rfl) rfl (tle rfl (rfl) rfl (tle rfl (rfl) rfl tln)))))))))) (olk rfl (by exact bC) (olk rfl (by exact bC) (olk rfl (by exact bC) oln))) noS) ?_
        rintro n_ s ⟨k, hn, hall, rfl⟩
        have hml := hgd.len
        all_goals refine aS (aR ?_)
        all_goals refine oC (oLt rfl rfl rfl) ?_
        all_goals refine oN ?_
        refine aS (aC rfl (fun h => ?_) (fun h => ?_))
        · have hlt : k < m.seen.length := by simpa using h
          have hx : m.seen[k]? = some m.seen[k] := List.getElem?_eq_getElem hlt
          have huo := hgd.ok _ (List.getElem_mem hlt)
          have hup := voteOk_pos huo
          have hul := voteOk_len huo
          have hs := tryF_drop m hx
          refine aW ?_
          refine aS (aB ?_)
          all_goals refine aS (aR ?_)
          all_goals refine oC (op_ix sl141 rfl rfl rfl (by omega) hx) ?_
          all_goals refine oC (oDR ty38 rfl rfl) ?_
          all_goals refine oC (oX (o := 4) z38 rfl rfl) ?_
          all_goals refine oC (op_st ty38 rfl rfl (Conv.of rfl) rfl) ?_
          all_goals refine oN ?_
          all_goals refine aS (aR ?_)
          all_goals refine oC (oF f38_1 rfl rfl) ?_
          all_goals refine oC (oD ty27 rfl rfl rfl) ?_
          all_goals refine oC (oF f38_1 rfl rfl) ?_
          all_goals refine oC (oD ty27 rfl rfl rfl) ?_
          all_goals refine oC (oE sl27 rfl rfl) ?_
          all_goals refine oC (op_sub rfl rfl rfl (by omega)) ?_
          all_goals refine oC (op_slh sl27 rfl rfl rfl ⟨by omega, by omega⟩) ?_
          all_goals refine oC (oA rfl (Conv.of rfl) rfl) ?_
          all_goals refine oN ?_
          have htk : (((m.seen[k]).chain.length : Int) - 1).toNat = (m.seen[k]).chain.length - 1 := by omega
          refine aST (s' := mkSt 99 [(2, .box 0 (IsLens.whole Nod)), (4, .box 2 (IsLens.whole Nod)), (5, .box 3 (IsLens.whole Vote)), (6, .v false), (7, .v m.seen), (8, .v ((tipOf m.seen).length : Int)), (9, .v (leader m.epoch)), (11, .box 4 (IsLens.whole Vote)), (54, .v m.seen), (55, .v (m.seen.length : Int)), (56, .v (k : Int)), (88, .v (fits m m.seen[k]))] [(0, .cell m), (2, .cell Nod.zero), (3, .cell Vote.zero), (4, .cell m.seen[k])]) ?_ ?_
          · all_goals refine dS ?_
            all_goals refine dC (oF f38_0 rfl rfl) ?_
            all_goals refine dC (oD ty3 rfl rfl rfl) ?_
            all_goals refine dC (oM rfl (Conv.of rfl) rfl) ?_
            all_goals refine dC (op_eql rfl rfl rfl) ?_
            all_goals refine dC (oM rfl (Conv.of rfl) rfl) ?_
            all_goals refine dr_split (t := 71) rfl (fun h => ?_) (fun h => ?_)
            all_goals first | refine dC (gF rfl rfl rfl rfl rfl) ?_ | refine dC (gN rfl rfl rfl (oD ty38 rfl rfl rfl)) ?_
            all_goals first | refine dC (gF rfl rfl rfl rfl rfl) ?_ | refine dC (gN rfl rfl rfl (oL fb150 (.cons rfl (Conv.of rfl) (.nil _)) (last_ct _ hup) (aK rfl rfl aK0) rfl rfl)) ?_
            all_goals first | refine dC (gF rfl rfl rfl rfl rfl) ?_ | refine dC (gN rfl rfl rfl (oF f90_1 rfl rfl)) ?_
            all_goals first | refine dC (gF rfl rfl rfl rfl rfl) ?_ | refine dC (gN rfl rfl rfl (oD ty3 rfl rfl rfl)) ?_
            all_goals first | refine dC (gF rfl rfl rfl rfl rfl) ?_ | refine dC (gN rfl rfl rfl (op_eql rfl rfl rfl)) ?_
            all_goals refine dC (oQ rfl rfl rfl rfl) ?_
            all_goals refine dC (oM rfl (Conv.of rfl) rfl) ?_
            all_goals first | refine dr_lit (t := 78) (b := false) rfl ?_ | refine dr_split (t := 78) rfl (fun h => ?_) (fun h => ?_)
            all_goals first | refine dC (gF rfl rfl rfl rfl rfl) ?_ | refine dC (gN rfl rfl rfl (oM rfl (Conv.of rfl) rfl)) ?_
            all_goals first | refine dC (gF rfl rfl rfl rfl rfl) ?_ | refine dC (gN rfl rfl rfl (oE sl27 rfl rfl)) ?_
            all_goals first | refine dC (gF rfl rfl rfl rfl rfl) ?_ | refine dC (gN rfl rfl rfl (oM rfl (Conv.of rfl) rfl)) ?_
            all_goals first | refine dC (gF rfl rfl rfl rfl rfl) ?_ | refine dC (gN rfl rfl rfl (op_eql rfl rfl rfl)) ?_
            all_goals refine dC (oQ rfl rfl rfl rfl) ?_
            all_goals refine dC (oM rfl (Conv.of rfl) rfl) ?_
            all_goals first | refine dr_lit (t := 84) (b := false) rfl ?_ | refine dr_split (t := 84) rfl (fun h => ?_) (fun h => ?_)
            all_goals first | refine dC (gF rfl rfl rfl rfl rfl) ?_ | refine dC (gN rfl rfl rfl (oM rfl (Conv.of rfl) rfl)) ?_
            all_goals first | refine dC (gF rfl rfl rfl rfl rfl) ?_ | refine dC (gN rfl rfl rfl (oM rfl (Conv.of rfl) rfl)) ?_
            all_goals first | refine dC (gF rfl rfl rfl rfl rfl) ?_ | refine dC (gN rfl rfl rfl (oL fb174 (.cons rfl (Conv.of rfl) (.cons rfl (Conv.of rfl) (.nil _))) (sure_ct _ _) (aK rfl rfl (aK rfl rfl aK0)) rfl rfl)) ?_
            all_goals refine dC (oQ rfl rfl rfl rfl) ?_
            all_goals refine dr_nil mixed rfl ?_
            all_goals exact Le.mk rfl (tlb rfl rfl rfl (tlb rfl rfl rfl (tlb rfl rfl rfl (tle rfl (rfl) rfl (tle rfl (rfl) rfl (tle rfl (rfl) rfl (tle rfl (rfl) rfl (tlb rfl rfl rfl (tle rfl (rfl) rfl (tle rfl (rfl) rfl (tle rfl (rfl) rfl (tle rfl (by (show AV.v _ = AV.v _; congr 1; rw [fits_alt hup]; clear hall hs hres; simp_all)) rfl tln)))))))))))) (olk rfl (by exact bC) (olk rfl (by exact bC) (olk rfl (by exact bC) (olk rfl (by exact bC) oln)))) noS
          refine aC rfl (fun hb => ?_) (fun hb => ?_)
          · all_goals refine aS (aR ?_)
            all_goals refine oC (oD ty90 rfl rfl rfl) ?_
            all_goals refine oC (oF f38_1 rfl rfl) ?_
            all_goals refine oC (oD ty27 rfl rfl rfl) ?_
            all_goals refine oC (oL fb173 (.cons rfl (Conv.of rfl) (.cons rfl (Conv.of rfl) (.nil _))) (nvote_ct _ _ hgd hul) (aK rfl rfl (aK rfl rfl aK0)) rfl rfl) ?_
            all_goals refine oC (op_ext rfl rfl rfl) ?_
            all_goals refine oC (op_ext rfl rfl rfl) ?_
            all_goals refine oC (op_ext rfl rfl rfl) ?_
            all_goals refine oC (op_st ty90 rfl rfl (Conv.of rfl) rfl) ?_
            all_goals refine oC (op_st ty38 rfl rfl (Conv.of rfl) rfl) ?_
            all_goals refine oC (oA rfl (Conv.of rfl) rfl) ?_
            all_goals refine oN ?_
            refine aT ?_
            repeat first | refine rS ?_ | refine rB ?_
            refine finN (.cons (.rc ty90 rfl rfl) (.cons (.rc ty38 rfl rfl) (.cons (.v rfl (Conv.of rfl)) .nil))) rfl rfl ?_
            rw [hall, hs, hb]; rfl
          · refine aW ?_
            all_goals refine aR ?_
            all_goals refine oC (oP rfl rfl rfl (by omega)) ?_
            all_goals refine oC (oM rfl (Conv.of rfl) rfl) ?_
            all_goals refine oN ?_
            repeat first | refine nS ?_ | refine nB ?_
            exact ⟨n_ - 1, _, by omega, ⟨k + 1, by omega, by rw [hall, hs, hb]; rfl, rfl⟩, Le.mk rfl (tlb rfl rfl rfl (tlb rfl rfl rfl (tlb rfl rfl rfl (tle rfl (rfl) rfl (tle rfl (rfl) rfl (tle rfl (rfl) rfl (tle rfl (rfl) rfl (tle rfl (rfl) rfl (tle rfl (rfl) rfl (tle rfl (rfl) rfl tln)))))))))) (olk rfl (by exact bC) (olk rfl (by exact bC) (olk rfl (by exact bC) oln))) noS⟩
        · refine aE ?_
          repeat refine ex_seq ?_
          refine eB ?_
          have hk : m.seen.length ≤ k := by simpa using h
          all_goals refine aS (aR ?_)
          all_goals refine oC (oD ty90 rfl rfl rfl) ?_
          all_goals refine oC (op_build (.nil _) z38 rfl pl38 rfl) ?_
          all_goals refine oC (op_st ty90 rfl rfl (Conv.of rfl) rfl) ?_
          all_goals refine oC (op_st ty38 rfl rfl (Conv.of rfl) rfl) ?_
          all_goals refine oC (oA rfl (Conv.of rfl) rfl) ?_
          all_goals refine oN ?_
          refine aT ?_
          repeat first | refine rS ?_ | refine rB ?_
          refine finN (.cons (.rc ty90 rfl rfl) (.cons (.rc ty38 rfl rfl) (.cons (.v rfl (Conv.of rfl)) .nil))) rfl rfl ?_
          rw [hall, drop_end hk]; rfl
end Go.Proofs.YtmhmeppocbcmeaaGreat

/- Worlds. -/
set_option linter.unusedVariables false
set_option linter.unusedSimpArgs false
namespace Go.Proofs.YtmhmeppocbcmeaaGreat
open Go Go.Wt
theorem send_ct (w : Wrld) (v : Vote) (hl : Gd w.log) (hv : v.chain.length ≤ 1000000) : CtO Tryz.prog 123 [.box 0 (IsLens.whole WrldA), .v v] (wo w) (.tup []) (wo (sendF w v)) := by
  refine Ct.intro Tryz.func123 rfl rfl ?_
  all_goals refine aS (aR ?_)
  all_goals refine oC (op_box (o := 2) ty38 rfl (Conv.of rfl) rfl rfl) ?_
  all_goals refine oN ?_
  refine aST (s' := mkSt 28 [(0, .box 0 (IsLens.whole WrldA)), (3, .box 2 (IsLens.whole Vote)), (18, .v (!decide (v ∈ w.log) && decide (w.log.length < 80)))] [(0, .cell (wA w)), (1, .arr w.nodes), (2, .cell v)]) ?_ ?_
  · all_goals refine dS ?_
    all_goals refine dC (oM rfl (Conv.of rfl) rfl) ?_
    all_goals refine dC (oNB rfl rfl) ?_
    all_goals refine dC (oF f26_2_WrldA rfl rfl) ?_
    all_goals refine dC (oD ty24 rfl rfl rfl) ?_
    all_goals refine dC (oD ty38 rfl rfl rfl) ?_
    all_goals refine dC (oL fb103 (.cons rfl (Conv.of rfl) (.cons rfl (Conv.of rfl) (.nil _))) (has_ct _ _) (aK rfl rfl (aK rfl rfl aK0)) rfl rfl) ?_
    all_goals refine dC (op_not rfl rfl) ?_
    all_goals refine dC (oM rfl (Conv.of rfl) rfl) ?_
    all_goals refine dr_split (t := 11) rfl (fun h => ?_) (fun h => ?_)
    all_goals first | refine dC (gF rfl rfl rfl rfl rfl) ?_ | refine dC (gN rfl rfl rfl (oM rfl (Conv.of rfl) rfl)) ?_
    all_goals first | refine dC (gF rfl rfl rfl rfl rfl) ?_ | refine dC (gN rfl rfl rfl (oNB rfl rfl)) ?_
    all_goals first | refine dC (gF rfl rfl rfl rfl rfl) ?_ | refine dC (gN rfl rfl rfl (oF f26_2_WrldA rfl rfl)) ?_
    all_goals first | refine dC (gF rfl rfl rfl rfl rfl) ?_ | refine dC (gN rfl rfl rfl (oD ty24 rfl rfl rfl)) ?_
    all_goals first | refine dC (gF rfl rfl rfl rfl rfl) ?_ | refine dC (gN rfl rfl rfl (oE sl24 rfl rfl)) ?_
    all_goals first | refine dC (gF rfl rfl rfl rfl rfl) ?_ | refine dC (gN rfl rfl rfl (oLt rfl rfl rfl)) ?_
    all_goals refine dC (oQ rfl rfl rfl rfl) ?_
    all_goals refine dr_nil mixed rfl ?_
    all_goals exact Le.mk rfl (tlb rfl rfl rfl (tlb rfl rfl rfl (tle rfl (by (simp_all; try omega)) rfl tln))) (olk rfl (by exact obOkW rfl) (olk rfl (by exact bA) (olk rfl (by exact bC) oln))) (hU (a := wo w) rfl)
  refine aC rfl (fun h => ?_) (fun h => ?_)
  · all_goals refine dS ?_
    all_goals refine dC (oM rfl (Conv.of rfl) rfl) ?_
    all_goals refine dC (oM rfl (Conv.of rfl) rfl) ?_
    all_goals refine dC (oNB rfl rfl) ?_
    all_goals refine dC (oF f26_2_WrldA rfl rfl) ?_
    all_goals refine dC (oD ty24 rfl rfl rfl) ?_
    all_goals refine dC (oD ty38 rfl rfl rfl) ?_
    all_goals refine dC (oL fb158 (.cons rfl (Conv.of rfl) (.cons rfl (Conv.of rfl) (.nil _))) (with_ct _ _ hl.l' hv) (aK rfl rfl (aK rfl rfl aK0)) rfl rfl) ?_
    all_goals refine dC (oNB rfl rfl) ?_
    all_goals refine dC (oF f26_2_WrldA rfl rfl) ?_
    all_goals refine dC (op_st ty24 rfl rfl (Conv.cl) rfl) ?_
    all_goals refine dr_nil mixed rfl ?_
    refine finO (wo (sendF w v)) .nil rfl (fun o ho => by cases ho) ?_ (hK rfl) rfl
    simp only [sendF, h, if_true]
    exact (olk rfl (obOkW rfl) (olk rfl bA oln))
  · refine aW ?_
    refine finO (wo (sendF w v)) .nil rfl (fun o ho => by cases ho) ?_ (hK rfl) rfl
    simp only [sendF, h]
    exact (olk rfl (obOkW rfl) (olk rfl bA oln))
theorem honest_ct (w : Wrld) (id : Int) (h4 : w.nodes.length = 4) : CtO Tryz.prog 155 [.box 0 (IsLens.whole WrldA), .v id] (wo w) (if honestB w id then .elm 1 (id - 1).toNat (IsLens.whole Nod) else .nilp) (wo w) := by
  refine Ct.intro Tryz.func155 rfl rfl ?_
  all_goals refine aS (aR ?_)
  all_goals refine oC (oA rfl (Conv.of rfl) rfl) ?_
  all_goals refine oN ?_
  refine aS (aST (s' := mkSt 31 [(0, .box 0 (IsLens.whole WrldA)), (1, .v id), (23, .v (!honestB w id))] [(0, .cell (wA w)), (1, .arr w.nodes)]) ?_ ?_)
  · all_goals refine aR ?_
    all_goals refine oC (oM rfl (Conv.of rfl) rfl) ?_
    all_goals refine oC (oL fb112 (.cons rfl (Conv.of rfl) (.nil _)) (nodeIdOk_ct _) (aK rfl rfl aK0) rfl rfl) ?_
    all_goals refine oC (op_not rfl rfl) ?_
    all_goals refine oC (oM rfl (Conv.of rfl) rfl) ?_
    all_goals refine g_split (t := 8) rfl (fun h => ?_) (fun h => ?_)
    all_goals first | refine oC (gF rfl rfl rfl rfl rfl) ?_ | refine oC (gN rfl rfl rfl (oM rfl (Conv.of rfl) rfl)) ?_
    all_goals first | refine oC (gF rfl rfl rfl rfl rfl) ?_ | refine oC (gN rfl rfl rfl (oM rfl (Conv.of rfl) rfl)) ?_
    all_goals first | refine oC (gF rfl rfl rfl rfl rfl) ?_ | refine oC (gN rfl rfl rfl (oNB rfl rfl)) ?_
    all_goals first | refine oC (gF rfl rfl rfl rfl rfl) ?_ | refine oC (gN rfl rfl rfl (oF f26_3_WrldA rfl rfl)) ?_
    all_goals first | refine oC (gF rfl rfl rfl rfl rfl) ?_ | refine oC (gN rfl rfl rfl (oD ty3 rfl rfl rfl)) ?_
    all_goals first | refine oC (gF rfl rfl rfl rfl rfl) ?_ | refine oC (gN rfl rfl rfl (op_eql rfl rfl rfl)) ?_
    all_goals refine oC (oQ rfl rfl rfl rfl) ?_
    all_goals refine oC (oM rfl (Conv.of rfl) rfl) ?_
    all_goals first | refine g_lit (t := 16) (b := true) rfl ?_ | refine g_split (t := 16) rfl (fun h => ?_) (fun h => ?_)
    all_goals first | refine oC (gF rfl rfl rfl rfl rfl) ?_ | refine oC (gN rfl rfl rfl (oM rfl (Conv.of rfl) rfl)) ?_
    all_goals first | refine oC (gF rfl rfl rfl rfl rfl) ?_ | refine oC (gN rfl rfl rfl (oNB rfl rfl)) ?_
    all_goals first | refine oC (gF rfl rfl rfl rfl rfl) ?_ | refine oC (gN rfl rfl rfl (oF f26_2_WrldA rfl rfl)) ?_
    all_goals first | refine oC (gF rfl rfl rfl rfl rfl) ?_ | refine oC (gN rfl rfl rfl (oD ty24 rfl rfl rfl)) ?_
    all_goals first | refine oC (gF rfl rfl rfl rfl rfl) ?_ | refine oC (gN rfl rfl rfl (oE sl24 rfl rfl)) ?_
    all_goals first | refine oC (gF rfl rfl rfl rfl rfl) ?_ | refine oC (gN rfl rfl rfl (op_geq rfl rfl rfl)) ?_
    all_goals refine oC (oQ rfl rfl rfl rfl) ?_
    all_goals refine oN ?_
    all_goals exact Le.mk rfl (tlb rfl rfl rfl (tle rfl (rfl) rfl (tle rfl (by (simp_all [honestB]; try (rw [Bool.eq_iff_iff]; simp; try omega))) rfl tln))) (olk rfl (by exact obOkW rfl) (olk rfl (by exact bA) oln)) (hU (a := wo w) rfl)
  refine aC rfl (fun h => ?_) (fun h => ?_)
  · all_goals refine aS (aR ?_)
    all_goals refine oC (oA rfl (Conv.of rfl) rfl) ?_
    all_goals refine oN ?_
    refine aT ?_
    repeat first | refine rS ?_ | refine rB ?_
    rw [not_t h]
    exact ⟨_, _, res1E (wo w) rfl rfl rfl (olk rfl (obOkW rfl) (olk rfl bA oln)) (hK rfl), rfl, rfl⟩
  · have h' := not_f h
    have hid : 1 ≤ id ∧ id ≤ 4 := by simp only [honestB, Bool.and_eq_true] at h'; simpa [within] using h'.1.1
    refine aW ?_
    all_goals refine aS (aR ?_)
    all_goals refine oC (oM rfl (Conv.of rfl) rfl) ?_
    all_goals refine oC (oNB rfl rfl) ?_
    all_goals refine oC (oF f26_1_WrldA rfl rfl) ?_
    all_goals refine oC (oD ty23_NRef rfl rfl rfl) ?_
    all_goals refine oC (oM rfl (Conv.of rfl) rfl) ?_
    all_goals refine oC (op_sub rfl rfl rfl (by omega)) ?_
    all_goals refine oC (op_ixA sl23 rfl rfl rfl rfl ⟨by omega, by omega⟩) ?_
    all_goals refine oC (oA rfl (Conv.of rfl) rfl) ?_
    all_goals refine oN ?_
    refine aT ?_
    repeat first | refine rS ?_ | refine rB ?_
    rw [h']
    exact ⟨_, _, res1E (wo w) rfl rfl rfl (olk rfl (obOkW rfl) (olk rfl bA oln)) (hK rfl), rfl, rfl⟩
theorem tick_ct (w : Wrld) (hw : Fine w) : CtO Tryz.prog 119 [.box 0 (IsLens.whole WrldA)] (wo w) (.tup []) (wo (tickF w)) := by
  have hep := hw.ep
  have h4 := hw.four
  refine Ct.intro Tryz.func119 rfl rfl ?_
  refine aS (aR ?_)
  refine oC (oM rfl (Conv.of rfl) rfl) ?_
  refine oC (oM rfl (Conv.of rfl) rfl) ?_
  refine oC (oNB rfl rfl) ?_
  refine oC (oF f26_0_WrldA rfl rfl) ?_
  refine oC (oD ty3 rfl rfl rfl) ?_
  refine oC (oP rfl rfl rfl (by ((try simp only [wA]); omega))) ?_
  refine oC (op_min rfl rfl rfl) ?_
  refine oC (oNB rfl rfl) ?_
  refine oC (oF f26_0_WrldA rfl rfl) ?_
  refine oC (op_st ty3 rfl rfl (Conv.of rfl) rfl) ?_
  refine oN ?_
  refine aS (aR ?_)
  refine oC (oM rfl (Conv.of rfl) rfl) ?_
  refine oC (oNB rfl rfl) ?_
  refine oC (oF f26_1_WrldA rfl rfl) ?_
  refine oC (oD ty23_NRef rfl rfl rfl) ?_
  refine oC (oEA sl23 rfl rfl rfl) ?_
  refine oC (oM rfl (Conv.of rfl) rfl) ?_
  refine oN ?_
  refine aB ?_
  refine awp_loop' (fun n s => ∃ (k : Nat), ∃ (hn : n + k = 4), s = mkSt 36 [(0, .box 0 (IsLens.whole WrldA)), (16, .v (NRef.ref 1)), (17, .v (4 : Int)), (18, .v (k : Int))] [(0, .cell (wA (tickF w))), (1, .arr ((w.nodes.take k).map (fun n => enterF n (min (w.epoch + 1) 30)) ++ w.nodes.drop k))]) (4) ⟨0, by omega, rfl⟩ (Le.mk rfl (tlb rfl rfl rfl (tlb rfl rfl rfl (tle rfl (by (rw [h4]; rfl)) rfl (tle rfl (rfl) rfl tln)))) (olk rfl (by exact obOkW rfl) (olk (by rfl) (by exact bA) oln)) (hU (a := wo w) rfl)) ?_
  rintro n s ⟨k, hn, rfl⟩
  have hlen : ((w.nodes.take k).map (fun n => enterF n (min (w.epoch + 1) 30)) ++ w.nodes.drop k).length = 4 := by simp; omega
  refine aS (aR ?_)
  refine oC (oLt rfl rfl rfl) ?_
  refine oN ?_
  refine aS (aC rfl (fun h => ?_) (fun h => ?_))
  · have hlt : k < 4 := by simp at h; omega
    have hx : w.nodes[k]? = some w.nodes[k] := List.getElem?_eq_getElem (by omega)
    have hx' : ((w.nodes.take k).map (fun n => enterF n (min (w.epoch + 1) 30)) ++ w.nodes.drop k)[(k : Int).toNat]? = some w.nodes[k] := by
      rw [List.getElem?_append_right (by simp; omega)]
      simp [Nat.min_eq_left (show k ≤ w.nodes.length by omega), hx]
    have hne := hw.nep _ (List.getElem_mem (show k < w.nodes.length by omega))
    refine aW ?_
    refine aS (aB ?_)
    refine aS (aR ?_)
    refine oC (oM rfl (Conv.of rfl) rfl) ?_
    refine oC (op_ixA sl23 rfl rfl rfl rfl ⟨by omega, by omega⟩) ?_
    refine oC (op_lde ty90 rfl rfl hx' rfl) ?_
    refine oC (oX (o := 2) z90 rfl rfl) ?_
    refine oC (oA rfl (Conv.of rfl) rfl) ?_
    refine oC (op_st ty90 rfl rfl (Conv.of rfl) rfl) ?_
    refine oN ?_
    refine dS ?_
    refine dC (oM rfl (Conv.of rfl) rfl) ?_
    refine dC (oNB rfl rfl) ?_
    refine dC (oF f26_1_WrldA rfl rfl) ?_
    refine dC (oD ty23_NRef rfl rfl rfl) ?_
    refine dC (oM rfl (Conv.of rfl) rfl) ?_
    refine dC (oD ty90 rfl rfl rfl) ?_
    refine dC (oM rfl (Conv.of rfl) rfl) ?_
    refine dC (oNB rfl rfl) ?_
    refine dC (oF f26_0_WrldA rfl rfl) ?_
    refine dC (oD ty3 rfl rfl rfl) ?_
    refine dC (oL fb154 (.cons rfl (Conv.of rfl) (.cons rfl (Conv.of rfl) (.nil _))) (enter_ct _ _ hne) (aK rfl rfl (aK rfl rfl aK0)) rfl rfl) ?_
    refine dC (op_ixA sl23 rfl rfl rfl rfl ⟨by omega, by omega⟩) ?_
    refine dC (op_ste ty90 rfl rfl (Conv.of rfl) rfl hx') ?_
    refine dr_nil mixed rfl ?_
    refine aR ?_
    refine oC (oP rfl rfl rfl (by omega)) ?_
    refine oC (oM rfl (Conv.of rfl) rfl) ?_
    refine oN ?_
    repeat first | refine nS ?_ | refine nB ?_
    exact ⟨n - 1, _, by omega, ⟨k + 1, by omega, rfl⟩, Le.mk rfl (tlb rfl rfl rfl (tlb rfl rfl rfl (tle rfl (by rfl) rfl (tle rfl (rfl) rfl tln)))) (olk rfl (by exact obOkW rfl) (olk (by (exact congrArg Obj.arr (tick_step hx).symm)) (by exact bA) oln)) (hU (a := wo w) rfl)⟩
  · refine aE ?_
    repeat refine ex_seq ?_
    refine eB ?_
    have hk : k = 4 := by simp at h; omega
    subst hk
    refine finO (wo (tickF w)) .nil rfl (fun o ho => by cases ho) ?_ (hK rfl) rfl
    exact (olk rfl (obOkW rfl) (olk (congrArg Obj.arr (by rw [take_end (by omega), drop_end (by omega), List.append_nil]; rfl)) bA oln))
end Go.Proofs.YtmhmeppocbcmeaaGreat

/- What happens in a world. -/
set_option linter.unusedVariables false
set_option linter.unusedSimpArgs false
namespace Go.Proofs.YtmhmeppocbcmeaaGreat
open Go Go.Wt
set_option maxHeartbeats 1000000 in
theorem wpropose_ct (w : Wrld) (id : Int) (p : Pay) (hw : Fine w) : CtO Tryz.prog 120 [.box 0 (IsLens.whole WrldA), .v id, .v p] (wo w) (.tup []) (wo (wproposeF w id p)) := by
  have h4 := hw.four
  have hc := honest_ct w id h4
  refine Ct.intro Tryz.func120 rfl rfl ?_
  all_goals refine aS (aR ?_)
  all_goals refine oC (op_box (o := 2) ty75 rfl (Conv.of rfl) rfl rfl) ?_
  all_goals refine oN ?_
  cases hb : honestB w id with
  | false =>
    rw [hb] at hc
    all_goals refine aS (aR ?_)
    all_goals refine oC (oM rfl (Conv.of rfl) rfl) ?_
    all_goals refine oC (oM rfl (Conv.of rfl) rfl) ?_
    all_goals refine oC (oLO fb155 (.cons rfl (Conv.of rfl) (.cons rfl (Conv.of rfl) (.nil _))) (hc) (olsk rfl (olsk rfl ols0)) (kK (by exact obOkW rfl) (kK (by exact bA) k0)) (kK (by exact obOkW rfl) (kK (by exact bA) k0)) rfl (argOb rfl rfl rfl (argOk' rfl rfl argO0)) (fun o ho => by cases ho) rfl) ?_
    all_goals refine oC (oA rfl (Conv.of rfl) rfl) ?_
    all_goals refine oN ?_
    all_goals refine aS (aS (aR ?_))
    all_goals refine oC (oM rfl (Conv.of rfl) rfl) ?_
    all_goals refine oC (op_eqp_nil up179 rfl rfl) ?_
    all_goals refine oC (oM rfl (Conv.of rfl) rfl) ?_
    all_goals refine g_lit (t := 15) (b := true) rfl ?_
    all_goals refine oC (gF rfl rfl rfl rfl rfl) ?_
    all_goals refine oC (gF rfl rfl rfl rfl rfl) ?_
    all_goals refine oC (gF rfl rfl rfl rfl rfl) ?_
    all_goals refine oC (oQ rfl rfl rfl rfl) ?_
    all_goals refine oN ?_
    refine aC rfl (fun h => ?_) (fun h => absurd h (by decide))
    refine aT ?_
    repeat first | refine rS ?_ | refine rB ?_
    refine finO (wo (wproposeF w id p)) .nil rfl (fun o ho => by cases ho) ?_ (hK rfl) rfl
    simp only [wproposeF, hb, Bool.false_and]
    exact (olk rfl (obOkW rfl) (olk rfl bA oln))
  | true =>
    rw [hb] at hc
    simp only [if_true] at hc
    have hid : 1 ≤ id ∧ id ≤ 4 := by simp only [honestB, Bool.and_eq_true] at hb; simpa [within] using hb.1.1
    have hlt : (id - 1).toNat < w.nodes.length := by omega
    have hx : w.nodes[(id - 1).toNat]? = some w.nodes[(id - 1).toNat] := List.getElem?_eq_getElem hlt
    have hgd := hw.seen _ (List.getElem_mem hlt)
    generalize hnn : w.nodes[(id - 1).toNat] = n at hx hgd
    all_goals refine aS (aR ?_)
    all_goals refine oC (oM rfl (Conv.of rfl) rfl) ?_
    all_goals refine oC (oM rfl (Conv.of rfl) rfl) ?_
    all_goals refine oC (oLO fb155 (.cons rfl (Conv.of rfl) (.cons rfl (Conv.of rfl) (.nil _))) (hc) (olsk rfl (olsk rfl ols0)) (kK (by exact obOkW rfl) (kK (by exact bA) k0)) (kK (by exact obOkW rfl) (kK (by exact bA) k0)) rfl (argOb rfl rfl rfl (argOk' rfl rfl argO0)) (fun o ho => by simp [AV.refs] at ho; subst ho; rfl) rfl) ?_
    all_goals refine oC (oA rfl (Conv.of rfl) rfl) ?_
    all_goals refine oN ?_
    all_goals refine aS (aS (aR ?_))
    all_goals refine oC (oM rfl (Conv.of rfl) rfl) ?_
    all_goals refine oC (op_eqp_elm up179 rfl rfl) ?_
    all_goals refine oC (oM rfl (Conv.of rfl) rfl) ?_
    all_goals refine g_lit (t := 15) (b := false) rfl ?_
    all_goals refine oC (gN rfl rfl rfl (oD ty75 rfl rfl rfl)) ?_
    all_goals refine oC (gN rfl rfl rfl (oL fb110 (.cons rfl (Conv.of rfl) (.nil _)) (payOk_ct _) (aK rfl rfl aK0) rfl rfl)) ?_
    all_goals refine oC (gN rfl rfl rfl (op_not rfl rfl)) ?_
    all_goals refine oC (oQ rfl rfl rfl rfl) ?_
    all_goals refine oN ?_
    refine aC rfl (fun h => ?_) (fun h => ?_)
    · refine aT ?_
      repeat first | refine rS ?_ | refine rB ?_
      refine finO (wo (wproposeF w id p)) .nil rfl (fun o ho => by cases ho) ?_ (hK rfl) rfl
      simp only [wproposeF, hb, not_t h, Bool.and_false]
      exact (olk rfl (obOkW rfl) (olk rfl bA oln))
    · have hp := not_f h
      refine aW ?_
      all_goals refine aS (dS ?_)
      all_goals refine dC (oM rfl (Conv.of rfl) rfl) ?_
      all_goals refine dC (op_nilc_elm rfl rfl) ?_
      all_goals refine dC (op_lde ty90 rfl rfl hx rfl) ?_
      all_goals refine dC (oD ty75 rfl rfl rfl) ?_
      all_goals refine dC (oL fb156 (.cons rfl (Conv.of rfl) (.cons rfl (Conv.of rfl) (.nil _))) (npropose_ct n p hgd) (aK rfl rfl (aK rfl rfl aK0)) rfl rfl) ?_
      all_goals refine dC (oM rfl (Conv.of rfl) rfl) ?_
      all_goals refine dC (op_ext rfl rfl rfl) ?_
      all_goals refine dC (op_ext rfl rfl rfl) ?_
      all_goals refine dC (op_ext rfl rfl rfl) ?_
      all_goals refine dC (oX (o := 3) z90 rfl rfl) ?_
      all_goals refine dC (oX (o := 4) z38 rfl rfl) ?_
      all_goals refine dC (op_st ty90 rfl rfl (Conv.of rfl) rfl) ?_
      all_goals refine dC (op_st ty38 rfl rfl (Conv.of rfl) rfl) ?_
      all_goals refine dC (oA rfl (Conv.of rfl) rfl) ?_
      all_goals refine dr_nil mixed rfl ?_
      all_goals refine aS (aR ?_)
      all_goals refine oC (oM rfl (Conv.of rfl) rfl) ?_
      all_goals refine oC (oD ty90 rfl rfl rfl) ?_
      all_goals refine oC (op_nilc_elm rfl rfl) ?_
      all_goals refine oC (op_ste ty90 rfl rfl (Conv.of rfl) rfl hx) ?_
      all_goals refine oN ?_
      all_goals refine aS (aR ?_)
      all_goals refine oC (oM rfl (Conv.of rfl) rfl) ?_
      all_goals refine oN ?_
      refine aC rfl (fun h2 => ?_) (fun h2 => ?_)
      · all_goals refine aR ?_
        all_goals refine oC (oM rfl (Conv.of rfl) rfl) ?_
        all_goals refine oC (oD ty38 rfl rfl rfl) ?_
        all_goals refine oC (oLO fb123 (.cons rfl (Conv.of rfl) (.cons rfl (Conv.of rfl) (.nil _))) (send_ct { w with nodes := w.nodes.set (id - 1).toNat (proposeF n p).1 } _ hw.log (proposeF_len p hgd)) (olsk rfl (olsk rfl ols0)) (kK (by exact obOkW rfl) (kK (by exact bA) k0)) (kK (by exact obOkW rfl) (kK (by exact bA) k0)) rfl (argOb rfl rfl rfl (argOk' rfl rfl argO0)) (fun o ho => by cases ho) rfl) ?_
        all_goals refine oN ?_
        refine finO (wo (wproposeF w id p)) .nil rfl (fun o ho => by cases ho) ?_ (hK rfl) rfl
        have e : wproposeF w id p = sendF { w with nodes := w.nodes.set (id - 1).toNat (proposeF n p).1 } (proposeF n p).2.1 := by
          simp only [wproposeF, hb, hp, hx, Bool.and_self, if_true, putF]
          rw [if_pos (show (proposeF n p).2.2 = true from h2)]
        rw [e]
        exact (olk rfl (obOkW rfl) (olk rfl bA oln))
      · refine aW ?_
        refine finO (wo (wproposeF w id p)) .nil rfl (fun o ho => by cases ho) ?_ (hK rfl) rfl
        have e : wproposeF w id p = { w with nodes := w.nodes.set (id - 1).toNat (proposeF n p).1 } := by
          simp only [wproposeF, hb, hp, hx, Bool.and_self, if_true, putF]
          rw [if_neg (by rw [show (proposeF n p).2.2 = false from h2]; decide)]
        rw [e]
        exact (olk rfl (obOkW rfl) (olk rfl bA oln))
set_option maxHeartbeats 1000000 in
theorem wbring_ct (w : Wrld) (at_ id : Int) (hw : Fine w) : CtO Tryz.prog 121 [.box 0 (IsLens.whole WrldA), .v at_, .v id] (wo w) (.tup []) (wo (wbringF w at_ id)) := by
  have h4 := hw.four
  have hlg := hw.log.len
  have hc := honest_ct w id h4
  refine Ct.intro Tryz.func121 rfl rfl ?_
  cases hb : honestB w id with
  | false =>
    rw [hb] at hc
    all_goals refine aS (aR ?_)
    all_goals refine oC (oM rfl (Conv.of rfl) rfl) ?_
    all_goals refine oC (oM rfl (Conv.of rfl) rfl) ?_
    all_goals refine oC (oLO fb155 (.cons rfl (Conv.of rfl) (.cons rfl (Conv.of rfl) (.nil _))) (hc) (olsk rfl (olsk rfl ols0)) (kK (by exact obOkW rfl) (kK (by exact bA) k0)) (kK (by exact obOkW rfl) (kK (by exact bA) k0)) rfl (argOb rfl rfl rfl (argOk' rfl rfl argO0)) (fun o ho => by cases ho) rfl) ?_
    all_goals refine oC (oA rfl (Conv.of rfl) rfl) ?_
    all_goals refine oN ?_
    all_goals refine aS (aS (aR ?_))
    all_goals refine oC (oM rfl (Conv.of rfl) rfl) ?_
    all_goals refine oC (op_eqp_nil up179 rfl rfl) ?_
    all_goals refine oC (oM rfl (Conv.of rfl) rfl) ?_
    all_goals refine g_lit (t := 15) (b := true) rfl ?_
    all_goals refine oC (gF rfl rfl rfl rfl rfl) ?_
    all_goals refine oC (gF rfl rfl rfl rfl rfl) ?_
    all_goals refine oC (gF rfl rfl rfl rfl rfl) ?_
    all_goals refine oC (gF rfl rfl rfl rfl rfl) ?_
    all_goals refine oC (gF rfl rfl rfl rfl rfl) ?_
    all_goals refine oC (gF rfl rfl rfl rfl rfl) ?_
    all_goals refine oC (gF rfl rfl rfl rfl rfl) ?_
    all_goals refine oC (gF rfl rfl rfl rfl rfl) ?_
    all_goals refine oC (gF rfl rfl rfl rfl rfl) ?_
    all_goals refine oC (oQ rfl rfl rfl rfl) ?_
    all_goals refine oN ?_
    refine aC rfl (fun h => ?_) (fun h => absurd h (by decide))
    refine aT ?_
    repeat first | refine rS ?_ | refine rB ?_
    refine finO (wo (wbringF w at_ id)) .nil rfl (fun o ho => by cases ho) ?_ (hK rfl) rfl
    simp only [wbringF, hb, Bool.false_and]
    exact (olk rfl (obOkW rfl) (olk rfl bA oln))
  | true =>
    rw [hb] at hc
    simp only [if_true] at hc
    have hid : 1 ≤ id ∧ id ≤ 4 := by simp only [honestB, Bool.and_eq_true] at hb; simpa [within] using hb.1.1
    have hlt : (id - 1).toNat < w.nodes.length := by omega
    have hx : w.nodes[(id - 1).toNat]? = some w.nodes[(id - 1).toNat] := List.getElem?_eq_getElem hlt
    have hgd := hw.seen _ (List.getElem_mem hlt)
    generalize hnn : w.nodes[(id - 1).toNat] = n at hx hgd
    all_goals refine aS (aR ?_)
    all_goals refine oC (oM rfl (Conv.of rfl) rfl) ?_
    all_goals refine oC (oM rfl (Conv.of rfl) rfl) ?_
    all_goals refine oC (oLO fb155 (.cons rfl (Conv.of rfl) (.cons rfl (Conv.of rfl) (.nil _))) (hc) (olsk rfl (olsk rfl ols0)) (kK (by exact obOkW rfl) (kK (by exact bA) k0)) (kK (by exact obOkW rfl) (kK (by exact bA) k0)) rfl (argOb rfl rfl rfl (argOk' rfl rfl argO0)) (fun o ho => by simp [AV.refs] at ho; subst ho; rfl) rfl) ?_
    all_goals refine oC (oA rfl (Conv.of rfl) rfl) ?_
    all_goals refine oN ?_
    all_goals refine aS (aS (aR ?_))
    all_goals refine oC (oM rfl (Conv.of rfl) rfl) ?_
    all_goals refine oC (op_eqp_elm up179 rfl rfl) ?_
    all_goals refine oC (oM rfl (Conv.of rfl) rfl) ?_
    all_goals refine g_lit (t := 15) (b := false) rfl ?_
    all_goals refine oC (gN rfl rfl rfl (oM rfl (Conv.of rfl) rfl)) ?_
    all_goals refine oC (gN rfl rfl rfl (oM rfl (Conv.of rfl) rfl)) ?_
    all_goals refine oC (gN rfl rfl rfl (oNB rfl rfl)) ?_
    all_goals refine oC (gN rfl rfl rfl (oF f26_2_WrldA rfl rfl)) ?_
    all_goals refine oC (gN rfl rfl rfl (oD ty24 rfl rfl rfl)) ?_
    all_goals refine oC (gN rfl rfl rfl (oE sl24 rfl rfl)) ?_
    all_goals refine oC (gN rfl rfl rfl (op_sub rfl rfl rfl (by ((try simp only [wA]); omega)))) ?_
    all_goals refine oC (gN rfl rfl rfl (oL fb98 (.cons rfl (Conv.of rfl) (.cons rfl (Conv.of rfl) (.cons rfl (Conv.of rfl) (.nil _)))) (within_ct _ _ _) (aK rfl rfl (aK rfl rfl (aK rfl rfl aK0))) rfl rfl)) ?_
    all_goals refine oC (gN rfl rfl rfl (op_not rfl rfl)) ?_
    all_goals refine oC (oQ rfl rfl rfl rfl) ?_
    all_goals refine oN ?_
    refine aC rfl (fun h => ?_) (fun h => ?_)
    · refine aT ?_
      repeat first | refine rS ?_ | refine rB ?_
      refine finO (wo (wbringF w at_ id)) .nil rfl (fun o ho => by cases ho) ?_ (hK rfl) rfl
      have h' : within at_ 0 ((w.log.length : Int) - 1) = false := not_t h
      simp only [wbringF, hb, h', Bool.and_false]
      exact (olk rfl (obOkW rfl) (olk rfl bA oln))
    · have h' : within at_ 0 ((w.log.length : Int) - 1) = true := not_f h
      have hat : 0 ≤ at_ ∧ at_ ≤ (w.log.length : Int) - 1 := by simpa [within] using h'
      have hy : w.log[at_.toNat]? = some (w.log[at_.toNat]'(by omega)) := List.getElem?_eq_getElem (by omega)
      generalize (w.log[at_.toNat]'(by omega)) = v at hy
      refine aW ?_
      all_goals refine aS (dS ?_)
      all_goals refine dC (oM rfl (Conv.of rfl) rfl) ?_
      all_goals refine dC (op_nilc_elm rfl rfl) ?_
      all_goals refine dC (op_lde ty90 rfl rfl hx rfl) ?_
      all_goals refine dC (oM rfl (Conv.of rfl) rfl) ?_
      all_goals refine dC (oNB rfl rfl) ?_
      all_goals refine dC (oF f26_2_WrldA rfl rfl) ?_
      all_goals refine dC (oD ty24 rfl rfl rfl) ?_
      all_goals refine dC (oM rfl (Conv.of rfl) rfl) ?_
      all_goals refine dC (op_ix sl24 rfl rfl rfl hat.1 hy) ?_
      all_goals refine dC (oDR ty38 rfl rfl) ?_
      all_goals refine dC (oL fb157 (.cons rfl (Conv.of rfl) (.cons rfl (Conv.of rfl) (.nil _))) (nhear_ct n v hgd) (aK rfl rfl (aK rfl rfl aK0)) rfl rfl) ?_
      all_goals refine dC (oM rfl (Conv.of rfl) rfl) ?_
      all_goals refine dC (op_ext rfl rfl rfl) ?_
      all_goals refine dC (op_ext rfl rfl rfl) ?_
      all_goals refine dC (op_ext rfl rfl rfl) ?_
      all_goals refine dC (oX (o := 2) z90 rfl rfl) ?_
      all_goals refine dC (oX (o := 3) z38 rfl rfl) ?_
      all_goals refine dC (op_st ty90 rfl rfl (Conv.of rfl) rfl) ?_
      all_goals refine dC (op_st ty38 rfl rfl (Conv.of rfl) rfl) ?_
      all_goals refine dC (oA rfl (Conv.of rfl) rfl) ?_
      all_goals refine dr_nil mixed rfl ?_
      all_goals refine aS (aR ?_)
      all_goals refine oC (oM rfl (Conv.of rfl) rfl) ?_
      all_goals refine oC (oD ty90 rfl rfl rfl) ?_
      all_goals refine oC (op_nilc_elm rfl rfl) ?_
      all_goals refine oC (op_ste ty90 rfl rfl (Conv.of rfl) rfl hx) ?_
      all_goals refine oN ?_
      all_goals refine aS (aR ?_)
      all_goals refine oC (oM rfl (Conv.of rfl) rfl) ?_
      all_goals refine oN ?_
      refine aC rfl (fun h2 => ?_) (fun h2 => ?_)
      · all_goals refine aR ?_
        all_goals refine oC (oM rfl (Conv.of rfl) rfl) ?_
        all_goals refine oC (oD ty38 rfl rfl rfl) ?_
        all_goals refine oC (oLO fb123 (.cons rfl (Conv.of rfl) (.cons rfl (Conv.of rfl) (.nil _))) (send_ct { w with nodes := w.nodes.set (id - 1).toNat (hearF n v).1 } _ hw.log (hearF_len v hgd)) (olsk rfl (olsk rfl ols0)) (kK (by exact obOkW rfl) (kK (by exact bA) k0)) (kK (by exact obOkW rfl) (kK (by exact bA) k0)) rfl (argOb rfl rfl rfl (argOk' rfl rfl argO0)) (fun o ho => by cases ho) rfl) ?_
        all_goals refine oN ?_
        refine finO (wo (wbringF w at_ id)) .nil rfl (fun o ho => by cases ho) ?_ (hK rfl) rfl
        have e : wbringF w at_ id = sendF { w with nodes := w.nodes.set (id - 1).toNat (hearF n v).1 } (hearF n v).2.1 := by
          simp only [wbringF, hb, h', hx, hy, Bool.and_self, if_true, putF]
          rw [if_pos (show (hearF n v).2.2 = true from h2)]
        rw [e]
        exact (olk rfl (obOkW rfl) (olk rfl bA oln))
      · refine aW ?_
        refine finO (wo (wbringF w at_ id)) .nil rfl (fun o ho => by cases ho) ?_ (hK rfl) rfl
        have e : wbringF w at_ id = { w with nodes := w.nodes.set (id - 1).toNat (hearF n v).1 } := by
          simp only [wbringF, hb, h', hx, hy, Bool.and_self, if_true, putF]
          rw [if_neg (by rw [show (hearF n v).2.2 = false from h2]; decide)]
        rw [e]
        exact (olk rfl (obOkW rfl) (olk rfl bA oln))
set_option maxHeartbeats 1000000 in
theorem do_ct (w : Wrld) (e : Evt) (hw : Fine w) : CtO Tryz.prog 65 [.box 0 (IsLens.whole WrldA), .v e] (wo w) (.tup []) (wo (doF w e)) := by
  refine Ct.intro Tryz.func65 rfl rfl ?_
  all_goals refine aS (aR ?_)
  all_goals refine oC (op_box (o := 2) ty77 rfl (Conv.of rfl) rfl rfl) ?_
  all_goals refine oN ?_
  all_goals refine aS (aR ?_)
  all_goals refine oC (oF f77_0 rfl rfl) ?_
  all_goals refine oC (oD ty3 rfl rfl rfl) ?_
  all_goals refine oN ?_
  refine aB ?_
  all_goals refine aS (aR ?_)
  all_goals refine oC (op_eql rfl rfl rfl) ?_
  all_goals refine oC (oA rfl (Conv.of rfl) rfl) ?_
  all_goals refine oN ?_
  refine aC rfl (fun h1 => ?_) (fun h1 => ?_)
  · have k1 : e.kind = 1 := by simpa using h1
    all_goals refine aR ?_
    all_goals refine oC (oM rfl (Conv.of rfl) rfl) ?_
    all_goals refine oC (oLO fb119 (.cons rfl (Conv.of rfl) (.nil _)) (tick_ct w hw) (olsk rfl (olsk rfl ols0)) (kK (by exact obOkW rfl) (kK (by exact bA) k0)) (kK (by exact obOkW rfl) (kK (by exact bA) k0)) rfl (argOb rfl rfl rfl argO0) (fun o ho => by cases ho) rfl) ?_
    all_goals refine oN ?_
    refine finO (wo (doF w e)) .nil rfl (fun o ho => by cases ho) ?_ (hK rfl) rfl
    rw [doF, if_pos k1]
    exact (olk rfl (obOkW rfl) (olk rfl bA oln))
  · have k1 : ¬ e.kind = 1 := by simpa using h1
    all_goals refine aS (aR ?_)
    all_goals refine oC (op_eql rfl rfl rfl) ?_
    all_goals refine oC (oA rfl (Conv.of rfl) rfl) ?_
    all_goals refine oN ?_
    refine aC rfl (fun h2 => ?_) (fun h2 => ?_)
    · have k2 : e.kind = 2 := by simpa using h2
      all_goals refine aR ?_
      all_goals refine oC (oM rfl (Conv.of rfl) rfl) ?_
      all_goals refine oC (oF f77_1 rfl rfl) ?_
      all_goals refine oC (oD ty3 rfl rfl rfl) ?_
      all_goals refine oC (oF f77_3 rfl rfl) ?_
      all_goals refine oC (oD ty75 rfl rfl rfl) ?_
      all_goals refine oC (oLO fb120 (.cons rfl (Conv.of rfl) (.cons rfl (Conv.of rfl) (.cons rfl (Conv.of rfl) (.nil _)))) (wpropose_ct w _ _ hw) (olsk rfl (olsk rfl ols0)) (kK (by exact obOkW rfl) (kK (by exact bA) k0)) (kK (by exact obOkW rfl) (kK (by exact bA) k0)) rfl (argOb rfl rfl rfl (argOk' rfl rfl (argOk' rfl rfl argO0))) (fun o ho => by cases ho) rfl) ?_
      all_goals refine oN ?_
      refine finO (wo (doF w e)) .nil rfl (fun o ho => by cases ho) ?_ (hK rfl) rfl
      rw [doF, if_neg k1, if_pos k2]
      exact (olk rfl (obOkW rfl) (olk rfl bA oln))
    · have k2 : ¬ e.kind = 2 := by simpa using h2
      all_goals refine aS (aR ?_)
      all_goals refine oC (op_eql rfl rfl rfl) ?_
      all_goals refine oC (oA rfl (Conv.of rfl) rfl) ?_
      all_goals refine oN ?_
      refine aC rfl (fun h3 => ?_) (fun h3 => ?_)
      · have k3 : e.kind = 3 := by simpa using h3
        all_goals refine aR ?_
        all_goals refine oC (oM rfl (Conv.of rfl) rfl) ?_
        all_goals refine oC (oF f77_1 rfl rfl) ?_
        all_goals refine oC (oD ty3 rfl rfl rfl) ?_
        all_goals refine oC (oF f77_2 rfl rfl) ?_
        all_goals refine oC (oD ty3 rfl rfl rfl) ?_
        all_goals refine oC (oLO fb121 (.cons rfl (Conv.of rfl) (.cons rfl (Conv.of rfl) (.cons rfl (Conv.of rfl) (.nil _)))) (wbring_ct w _ _ hw) (olsk rfl (olsk rfl ols0)) (kK (by exact obOkW rfl) (kK (by exact bA) k0)) (kK (by exact obOkW rfl) (kK (by exact bA) k0)) rfl (argOb rfl rfl rfl (argOk' rfl rfl (argOk' rfl rfl argO0))) (fun o ho => by cases ho) rfl) ?_
        all_goals refine oN ?_
        refine finO (wo (doF w e)) .nil rfl (fun o ho => by cases ho) ?_ (hK rfl) rfl
        rw [doF, if_neg k1, if_neg k2, if_pos k3]
        exact (olk rfl (obOkW rfl) (olk rfl bA oln))
      · have k3 : ¬ e.kind = 3 := by simpa using h3
        all_goals refine aS (aR ?_)
        all_goals refine oC (op_eql rfl rfl rfl) ?_
        all_goals refine oC (oA rfl (Conv.of rfl) rfl) ?_
        all_goals refine oN ?_
        refine aC rfl (fun h4 => ?_) (fun h4 => ?_)
        · have k4 : e.kind = 4 := by simpa using h4
          refine aST (s' := mkSt 45 [(0, .box 0 (IsLens.whole WrldA)), (3, .box 2 (IsLens.whole Evt)), (40, .v (voteOk e.vote && decide (e.vote.by_ = w.bad)))] [(0, .cell (wA w)), (1, .arr w.nodes), (2, .cell e)]) ?_ ?_
          · all_goals refine dS ?_
            all_goals refine dC (oF f77_4 rfl rfl) ?_
            all_goals refine dC (oD ty38 rfl rfl rfl) ?_
            all_goals refine dC (oL fb122 (.cons rfl (Conv.of rfl) (.nil _)) (voteOk_ct _) (aK rfl rfl aK0) rfl rfl) ?_
            all_goals refine dC (oM rfl (Conv.of rfl) rfl) ?_
            all_goals refine dr_split (t := 31) rfl (fun h => ?_) (fun h => ?_)
            all_goals first | refine dC (gF rfl rfl rfl rfl rfl) ?_ | refine dC (gN rfl rfl rfl (oF f77_4 rfl rfl)) ?_
            all_goals first | refine dC (gF rfl rfl rfl rfl rfl) ?_ | refine dC (gN rfl rfl rfl (oF f38_0 rfl rfl)) ?_
            all_goals first | refine dC (gF rfl rfl rfl rfl rfl) ?_ | refine dC (gN rfl rfl rfl (oD ty3 rfl rfl rfl)) ?_
            all_goals first | refine dC (gF rfl rfl rfl rfl rfl) ?_ | refine dC (gN rfl rfl rfl (oM rfl (Conv.of rfl) rfl)) ?_
            all_goals first | refine dC (gF rfl rfl rfl rfl rfl) ?_ | refine dC (gN rfl rfl rfl (oNB rfl rfl)) ?_
            all_goals first | refine dC (gF rfl rfl rfl rfl rfl) ?_ | refine dC (gN rfl rfl rfl (oF f26_3_WrldA rfl rfl)) ?_
            all_goals first | refine dC (gF rfl rfl rfl rfl rfl) ?_ | refine dC (gN rfl rfl rfl (oD ty3 rfl rfl rfl)) ?_
            all_goals first | refine dC (gF rfl rfl rfl rfl rfl) ?_ | refine dC (gN rfl rfl rfl (op_eql rfl rfl rfl)) ?_
            all_goals refine dC (oQ rfl rfl rfl rfl) ?_
            all_goals refine dr_nil mixed rfl ?_
            all_goals exact Le.mk rfl (tlb rfl rfl rfl (tlb rfl rfl rfl (tle rfl (by (clear h1 h2 h3 h4; simp_all; try (rw [Bool.eq_iff_iff]; simp))) rfl tln))) (olk rfl (by exact obOkW rfl) (olk rfl (by exact bA) (olk rfl (by exact bC) oln))) (hU (a := wo w) rfl)
          refine aC rfl (fun h5 => ?_) (fun h5 => ?_)
          · have hvo : voteOk e.vote = true := by simp only [Bool.and_eq_true] at h5; exact h5.1
            all_goals refine aR ?_
            all_goals refine oC (oM rfl (Conv.of rfl) rfl) ?_
            all_goals refine oC (oF f77_4 rfl rfl) ?_
            all_goals refine oC (oD ty38 rfl rfl rfl) ?_
            all_goals refine oC (oLO fb123 (.cons rfl (Conv.of rfl) (.cons rfl (Conv.of rfl) (.nil _))) (send_ct w _ hw.log (voteOk_len hvo)) (olsk rfl (olsk rfl ols0)) (kK (by exact obOkW rfl) (kK (by exact bA) k0)) (kK (by exact obOkW rfl) (kK (by exact bA) k0)) rfl (argOb rfl rfl rfl (argOk' rfl rfl argO0)) (fun o ho => by cases ho) rfl) ?_
            all_goals refine oN ?_
            refine finO (wo (doF w e)) .nil rfl (fun o ho => by cases ho) ?_ (hK rfl) rfl
            rw [doF, if_neg k1, if_neg k2, if_neg k3, if_pos k4, h5, if_pos rfl]
            exact (olk rfl (obOkW rfl) (olk rfl bA oln))
          · refine aW ?_
            refine finO (wo (doF w e)) .nil rfl (fun o ho => by cases ho) ?_ (hK rfl) rfl
            rw [doF, if_neg k1, if_neg k2, if_neg k3, if_pos k4, h5, if_neg (by decide)]
            exact (olk rfl (obOkW rfl) (olk rfl bA oln))
        · have k4 : ¬ e.kind = 4 := by simpa using h4
          refine aW ?_
          refine finO (wo (doF w e)) .nil rfl (fun o ho => by cases ho) ?_ (hK rfl) rfl
          rw [doF, if_neg k1, if_neg k2, if_neg k3, if_neg k4]
          exact (olk rfl (obOkW rfl) (olk rfl bA oln))
end Go.Proofs.YtmhmeppocbcmeaaGreat

/- Plays. -/
set_option linter.unusedVariables false
set_option linter.unusedSimpArgs false
namespace Go.Proofs.YtmhmeppocbcmeaaGreat
open Go Go.Wt
theorem worldNewBad_ct (bad : Int) (hb : within bad 0 4 = false) : CtP Tryz.prog 64 [.v bad] (.tup [.v WrldA.zero, .v false]) := by
  refine Ct.intro Tryz.func64 rfl rfl ?_
  refine aS (aR ?_)
  refine oC (oX (o := 0) z26_WrldA rfl rfl) ?_
  refine oC (oA rfl (Conv.of rfl) rfl) ?_
  refine oN ?_
  refine aS (aS (aR ?_))
  refine oC (oM rfl (Conv.of rfl) rfl) ?_
  refine oC (oL fb98 (.cons rfl (Conv.of rfl) (.cons rfl (Conv.of rfl) (.cons rfl (Conv.of rfl) (.nil _)))) (within_ct _ _ _) (aK rfl rfl (aK rfl rfl (aK rfl rfl aK0))) rfl rfl) ?_
  refine oC (op_not rfl rfl) ?_
  refine oN ?_
  refine aC rfl (fun h => ?_) (fun h => absurd (not_f h) (by rw [hb]; decide))
  refine aS (aR ?_)
  refine oC (op_build (.nil _) z26_WrldA rfl pl26 rfl) ?_
  refine oC (op_st ty26_WrldA rfl rfl (Conv.of rfl) rfl) ?_
  refine oC (oA rfl (Conv.of rfl) rfl) ?_
  refine oN ?_
  refine aT ?_
  repeat first | refine rS ?_ | refine rB ?_
  exact finN (.cons (.rc ty26_WrldA rfl rfl) (.cons (.v rfl (Conv.of rfl)) .nil)) rfl rfl rfl
theorem worldNew_ct (bad : Int) (hb : within bad 0 4 = true) : Ct Tryz.prog 64 [.v bad] noObj (fun r1 h1 => r1 = .tup [.v (wA (newW bad)), .v true] ∧ h1 = obs [(1, .arr (newW bad).nodes)]) := by
  refine Ct.intro Tryz.func64 rfl rfl ?_
  refine aS (aR ?_)
  refine oC (oX (o := 5) z26_WrldA rfl rfl) ?_
  refine oC (oA rfl (Conv.of rfl) rfl) ?_
  refine oN ?_
  refine aS (aS (aR ?_))
  refine oC (oM rfl (Conv.of rfl) rfl) ?_
  refine oC (oL fb98 (.cons rfl (Conv.of rfl) (.cons rfl (Conv.of rfl) (.cons rfl (Conv.of rfl) (.nil _)))) (within_ct _ _ _) (aK rfl rfl (aK rfl rfl (aK rfl rfl aK0))) rfl rfl) ?_
  refine oC (op_not rfl rfl) ?_
  refine oN ?_
  refine aC rfl (fun h => absurd (not_t h) (by rw [hb]; decide)) (fun h => ?_)
  refine aW ?_
  refine aS (aR ?_)
  refine oC (oM rfl (Conv.of rfl) rfl) ?_
  refine oC (op_mka (o := 11) sl23 z90 rfl rfl (by decide) (by decide) (by decide) rfl rfl) ?_
  refine oC (op_build (.cons f26_3_WrldA rfl (Conv.of rfl) (.cons f26_1_WrldA rfl (Conv.nr) (.nil _))) z26_WrldA rfl pl26 rfl) ?_
  refine oC (oX (o := 0) z26_WrldA rfl rfl) ?_
  refine oC (op_st ty26_WrldA rfl rfl (Conv.of rfl) rfl) ?_
  refine oN ?_
  refine aS (aS (aR ?_))
  refine oC (oA rfl (Conv.of rfl) rfl) ?_
  refine oN ?_
  refine aB ?_
  refine awp_loop' (fun n s => (n = 4 ∧ s = mkSt 25 [(2, .box 5 (IsLens.whole WrldA)), (4, .box 0 (IsLens.whole WrldA)), (5, .v (1 : Int))] [(0, .cell (WrldA.mk 0 (.ref 11) [] bad)), (5, .cell WrldA.zero), (11, .arr ([] : List Nod))]) ∨ (n = 3 ∧ s = mkSt 25 [(2, .box 5 (IsLens.whole WrldA)), (4, .box 0 (IsLens.whole WrldA)), (5, .v (2 : Int))] [(0, .cell (WrldA.mk 0 (.ref 12) [] bad)), (5, .cell WrldA.zero), (12, .arr ([newN 1] : List Nod))]) ∨ (n = 2 ∧ s = mkSt 25 [(2, .box 5 (IsLens.whole WrldA)), (4, .box 0 (IsLens.whole WrldA)), (5, .v (3 : Int))] [(0, .cell (WrldA.mk 0 (.ref 13) [] bad)), (5, .cell WrldA.zero), (13, .arr ([newN 1, newN 2] : List Nod))]) ∨ (n = 1 ∧ s = mkSt 25 [(2, .box 5 (IsLens.whole WrldA)), (4, .box 0 (IsLens.whole WrldA)), (5, .v (4 : Int))] [(0, .cell (WrldA.mk 0 (.ref 14) [] bad)), (5, .cell WrldA.zero), (14, .arr ([newN 1, newN 2, newN 3] : List Nod))]) ∨ (n = 0 ∧ s = mkSt 25 [(2, .box 5 (IsLens.whole WrldA)), (4, .box 0 (IsLens.whole WrldA)), (5, .v (5 : Int))] [(0, .cell (WrldA.mk 0 (.ref 1) [] bad)), (5, .cell WrldA.zero), (1, .arr ([newN 1, newN 2, newN 3, newN 4] : List Nod))])) 4 (.inl ⟨rfl, rfl⟩) (Le.mk rfl (tlb rfl rfl rfl (tlb rfl rfl rfl (tle rfl (rfl) rfl tln))) (olk rfl (by exact obOkW rfl) (olk rfl (by exact obOkW0) (olk rfl (by exact bA) oln))) noS) ?_
  rintro n s (⟨rfl, rfl⟩|⟨rfl, rfl⟩|⟨rfl, rfl⟩|⟨rfl, rfl⟩|⟨rfl, rfl⟩)
  · refine aS (aS (aR ?_))
    refine oC (oM rfl (Conv.of rfl) rfl) ?_
    refine oC (op_leq rfl rfl rfl) ?_
    refine oN ?_
    refine aC rfl (fun h => ?_) (fun h => absurd h (by decide))
    refine aW ?_
    refine aS (aB ?_)
    refine aR ?_
    refine oC (oF f26_1_WrldA rfl rfl) ?_
    refine oC (oD ty23_NRef rfl rfl rfl) ?_
    refine oC (oM rfl (Conv.of rfl) rfl) ?_
    refine oC (op_build (.cons f90_0 rfl (Conv.of rfl) (.nil _)) z90 rfl pl90 rfl) ?_
    refine oC (op_bsl sl23 z90 (.cons rfl (Conv.of rfl) (.nil _)) rfl (by decide) rfl) ?_
    refine oC (op_apA (o' := 12) sl23 z90 ul23 rfl rfl rfl rfl (by simp) (by decide) (by decide) rfl) ?_
    refine oC (oF f26_1_WrldA rfl rfl) ?_
    refine oC (op_st ty23_NRef rfl rfl (Conv.of rfl) rfl) ?_
    refine oN ?_
    refine aR ?_
    refine oC (oM rfl (Conv.of rfl) rfl) ?_
    refine oC (oP rfl rfl rfl (by omega)) ?_
    refine oC (oA rfl (Conv.of rfl) rfl) ?_
    refine oN ?_
    repeat first | refine nS ?_ | refine nB ?_
    exact ⟨3, _, by decide, .inr (.inl ⟨rfl, rfl⟩), Le.mk rfl (tlb rfl rfl rfl (tlb rfl rfl rfl (tle rfl (rfl) rfl tln))) (olk rfl (by exact obOkW rfl) (olk rfl (by exact obOkW0) (olk rfl (by exact bA) oln))) noS⟩
  · refine aS (aS (aR ?_))
    refine oC (oM rfl (Conv.of rfl) rfl) ?_
    refine oC (op_leq rfl rfl rfl) ?_
    refine oN ?_
    refine aC rfl (fun h => ?_) (fun h => absurd h (by decide))
    refine aW ?_
    refine aS (aB ?_)
    refine aR ?_
    refine oC (oF f26_1_WrldA rfl rfl) ?_
    refine oC (oD ty23_NRef rfl rfl rfl) ?_
    refine oC (oM rfl (Conv.of rfl) rfl) ?_
    refine oC (op_build (.cons f90_0 rfl (Conv.of rfl) (.nil _)) z90 rfl pl90 rfl) ?_
    refine oC (op_bsl sl23 z90 (.cons rfl (Conv.of rfl) (.nil _)) rfl (by decide) rfl) ?_
    refine oC (op_apA (o' := 13) sl23 z90 ul23 rfl rfl rfl rfl (by simp) (by decide) (by decide) rfl) ?_
    refine oC (oF f26_1_WrldA rfl rfl) ?_
    refine oC (op_st ty23_NRef rfl rfl (Conv.of rfl) rfl) ?_
    refine oN ?_
    refine aR ?_
    refine oC (oM rfl (Conv.of rfl) rfl) ?_
    refine oC (oP rfl rfl rfl (by omega)) ?_
    refine oC (oA rfl (Conv.of rfl) rfl) ?_
    refine oN ?_
    repeat first | refine nS ?_ | refine nB ?_
    exact ⟨2, _, by decide, .inr (.inr (.inl ⟨rfl, rfl⟩)), Le.mk rfl (tlb rfl rfl rfl (tlb rfl rfl rfl (tle rfl (rfl) rfl tln))) (olk rfl (by exact obOkW rfl) (olk rfl (by exact obOkW0) (olk rfl (by exact bA) oln))) noS⟩
  · refine aS (aS (aR ?_))
    refine oC (oM rfl (Conv.of rfl) rfl) ?_
    refine oC (op_leq rfl rfl rfl) ?_
    refine oN ?_
    refine aC rfl (fun h => ?_) (fun h => absurd h (by decide))
    refine aW ?_
    refine aS (aB ?_)
    refine aR ?_
    refine oC (oF f26_1_WrldA rfl rfl) ?_
    refine oC (oD ty23_NRef rfl rfl rfl) ?_
    refine oC (oM rfl (Conv.of rfl) rfl) ?_
    refine oC (op_build (.cons f90_0 rfl (Conv.of rfl) (.nil _)) z90 rfl pl90 rfl) ?_
    refine oC (op_bsl sl23 z90 (.cons rfl (Conv.of rfl) (.nil _)) rfl (by decide) rfl) ?_
    refine oC (op_apA (o' := 14) sl23 z90 ul23 rfl rfl rfl rfl (by simp) (by decide) (by decide) rfl) ?_
    refine oC (oF f26_1_WrldA rfl rfl) ?_
    refine oC (op_st ty23_NRef rfl rfl (Conv.of rfl) rfl) ?_
    refine oN ?_
    refine aR ?_
    refine oC (oM rfl (Conv.of rfl) rfl) ?_
    refine oC (oP rfl rfl rfl (by omega)) ?_
    refine oC (oA rfl (Conv.of rfl) rfl) ?_
    refine oN ?_
    repeat first | refine nS ?_ | refine nB ?_
    exact ⟨1, _, by decide, .inr (.inr (.inr (.inl ⟨rfl, rfl⟩))), Le.mk rfl (tlb rfl rfl rfl (tlb rfl rfl rfl (tle rfl (rfl) rfl tln))) (olk rfl (by exact obOkW rfl) (olk rfl (by exact obOkW0) (olk rfl (by exact bA) oln))) noS⟩
  · refine aS (aS (aR ?_))
    refine oC (oM rfl (Conv.of rfl) rfl) ?_
    refine oC (op_leq rfl rfl rfl) ?_
    refine oN ?_
    refine aC rfl (fun h => ?_) (fun h => absurd h (by decide))
    refine aW ?_
    refine aS (aB ?_)
    refine aR ?_
    refine oC (oF f26_1_WrldA rfl rfl) ?_
    refine oC (oD ty23_NRef rfl rfl rfl) ?_
    refine oC (oM rfl (Conv.of rfl) rfl) ?_
    refine oC (op_build (.cons f90_0 rfl (Conv.of rfl) (.nil _)) z90 rfl pl90 rfl) ?_
    refine oC (op_bsl sl23 z90 (.cons rfl (Conv.of rfl) (.nil _)) rfl (by decide) rfl) ?_
    refine oC (op_apA (o' := 1) sl23 z90 ul23 rfl rfl rfl rfl (by simp) (by decide) (by decide) rfl) ?_
    refine oC (oF f26_1_WrldA rfl rfl) ?_
    refine oC (op_st ty23_NRef rfl rfl (Conv.of rfl) rfl) ?_
    refine oN ?_
    refine aR ?_
    refine oC (oM rfl (Conv.of rfl) rfl) ?_
    refine oC (oP rfl rfl rfl (by omega)) ?_
    refine oC (oA rfl (Conv.of rfl) rfl) ?_
    refine oN ?_
    repeat first | refine nS ?_ | refine nB ?_
    exact ⟨0, _, by decide, .inr (.inr (.inr (.inr (⟨rfl, rfl⟩)))), Le.mk rfl (tlb rfl rfl rfl (tlb rfl rfl rfl (tle rfl (rfl) rfl tln))) (olk rfl (by exact obOkW rfl) (olk rfl (by exact obOkW0) (olk rfl (by exact bA) oln))) noS⟩
  · refine aS (aS (aR ?_))
    refine oC (oM rfl (Conv.of rfl) rfl) ?_
    refine oC (op_leq rfl rfl rfl) ?_
    refine oN ?_
    refine aC rfl (fun h => absurd h (by decide)) (fun h => ?_)
    refine aE ?_
    repeat refine ex_seq ?_
    refine eB ?_
    refine aS (aR ?_)
    refine oC (oD ty26_WrldA rfl rfl rfl) ?_
    refine oC (op_st ty26_WrldA rfl rfl (Conv.of rfl) rfl) ?_
    refine oC (oA rfl (Conv.of rfl) rfl) ?_
    refine oN ?_
    refine aT ?_
    repeat first | refine rS ?_ | refine rB ?_
    refine ⟨_, _, resN (ol := [(1, .arr (newW bad).nodes)]) (.cons (.rc ty26_WrldA rfl rfl) (.cons (.v rfl (Conv.of rfl)) .nil)) rfl (fun o ho => ?_) (olk rfl bA oln) noS, rfl, rfl⟩
    have : o = 1 := by simpa using (show o ∈ [1] from ho)
    subst this; rfl
end Go.Proofs.YtmhmeppocbcmeaaGreat

/- Worlds copied. -/
set_option linter.unusedVariables false
set_option linter.unusedSimpArgs false
namespace Go.Proofs.YtmhmeppocbcmeaaGreat
open Go Go.Wt
theorem copiedA_ct (e : Int) (a b c d : Nod) (l : List Vote) (bd : Int) (hl : Gd l) (ha : Gd a.seen) (hb : Gd b.seen) (hc : Gd c.seen) (hd : Gd d.seen) :
    Ct Tryz.prog 66 [.v (WrldA.mk e (.ref 1) l bd)] (obs [(1, .arr [a, b, c, d])]) (fun r1 h1 => r1 = .v (WrldA.mk e (.ref 2) l bd) ∧ h1 = obs [(1, .arr [a, b, c, d]), (2, .arr [a, b, c, d])]) := by
  refine Ct.intro Tryz.func66 rfl rfl ?_
  refine aS (aR ?_)
  refine oC (op_box (o := 5) ty26_WrldA rfl (Conv.of rfl) rfl rfl) ?_
  refine oC (oX (o := 6) z26_WrldA rfl rfl) ?_
  refine oN ?_
  refine aS (dS ?_)
  refine dC (oF f26_0_WrldA rfl rfl) ?_
  refine dC (oD ty3 rfl rfl rfl) ?_
  refine dC (oF f26_1_WrldA rfl rfl) ?_
  refine dC (oD ty23_NRef rfl rfl rfl) ?_
  refine dC (oEA sl23 rfl rfl rfl) ?_
  refine dC (op_mka (o := 11) sl23 z90 rfl rfl (by (simp)) (by (simp)) (by (simp)) rfl rfl) ?_
  refine dC (oF f26_2_WrldA rfl rfl) ?_
  refine dC (oD ty24 rfl rfl rfl) ?_
  refine dC (oL fb124 (.cons rfl (Conv.of rfl) (.nil _)) (votesCopied_ct _ hl.l' hl.v) (aK rfl rfl aK0) rfl rfl) ?_
  refine dC (oF f26_3_WrldA rfl rfl) ?_
  refine dC (oD ty3 rfl rfl rfl) ?_
  refine dC (op_build (.cons f26_0_WrldA rfl (Conv.of rfl) (.cons f26_1_WrldA rfl (Conv.nr) (.cons f26_2_WrldA rfl (Conv.ol) (.cons f26_3_WrldA rfl (Conv.of rfl) (.nil _))))) z26_WrldA rfl pl26 rfl) ?_
  refine dC (oX (o := 7) z26_WrldA rfl rfl) ?_
  refine dC (op_st ty26_WrldA rfl rfl (Conv.of rfl) rfl) ?_
  refine dr_nil mixed rfl ?_
  refine aS (aS (aR ?_))
  refine oC (oF f26_1_WrldA rfl rfl) ?_
  refine oC (oD ty23_NRef rfl rfl rfl) ?_
  refine oC (oEA sl23 rfl rfl rfl) ?_
  refine oC (oM rfl (Conv.of rfl) rfl) ?_
  refine oN ?_
  refine aB ?_
  refine awp_loop' (fun n s => (n = 4 ∧ s = mkSt 34 [(2, .box 6 (IsLens.whole WrldA)), (3, .box 7 (IsLens.whole WrldA)), (19, .v (NRef.ref 1)), (20, .v (4 : Int)), (21, .v (0 : Int))] [(1, .arr [a, b, c, d]), (6, .cell WrldA.zero), (7, .cell (WrldA.mk e (.ref 11) l bd)), (11, .arr ([] : List Nod))]) ∨ (n = 3 ∧ s = mkSt 34 [(2, .box 6 (IsLens.whole WrldA)), (3, .box 7 (IsLens.whole WrldA)), (19, .v (NRef.ref 1)), (20, .v (4 : Int)), (21, .v (1 : Int))] [(1, .arr [a, b, c, d]), (6, .cell WrldA.zero), (7, .cell (WrldA.mk e (.ref 12) l bd)), (12, .arr ([a] : List Nod))]) ∨ (n = 2 ∧ s = mkSt 34 [(2, .box 6 (IsLens.whole WrldA)), (3, .box 7 (IsLens.whole WrldA)), (19, .v (NRef.ref 1)), (20, .v (4 : Int)), (21, .v (2 : Int))] [(1, .arr [a, b, c, d]), (6, .cell WrldA.zero), (7, .cell (WrldA.mk e (.ref 13) l bd)), (13, .arr ([a, b] : List Nod))]) ∨ (n = 1 ∧ s = mkSt 34 [(2, .box 6 (IsLens.whole WrldA)), (3, .box 7 (IsLens.whole WrldA)), (19, .v (NRef.ref 1)), (20, .v (4 : Int)), (21, .v (3 : Int))] [(1, .arr [a, b, c, d]), (6, .cell WrldA.zero), (7, .cell (WrldA.mk e (.ref 14) l bd)), (14, .arr ([a, b, c] : List Nod))]) ∨ (n = 0 ∧ s = mkSt 34 [(2, .box 6 (IsLens.whole WrldA)), (3, .box 7 (IsLens.whole WrldA)), (19, .v (NRef.ref 1)), (20, .v (4 : Int)), (21, .v (4 : Int))] [(1, .arr [a, b, c, d]), (6, .cell WrldA.zero), (7, .cell (WrldA.mk e (.ref 2) l bd)), (2, .arr ([a, b, c, d] : List Nod))])) 4 (.inl ⟨rfl, rfl⟩) (Le.mk rfl (tlb rfl rfl rfl (tlb rfl rfl rfl (tlb rfl rfl rfl (tle rfl (rfl) rfl (tle rfl (rfl) rfl tln))))) (olk rfl (by exact bA) (olk rfl (by exact obOkW0) (olk rfl (by exact obOkW rfl) (olk rfl (by exact bA) oln)))) (hU (a := [(1, .arr [a, b, c, d])]) rfl)) ?_
  rintro n s (⟨rfl, rfl⟩|⟨rfl, rfl⟩|⟨rfl, rfl⟩|⟨rfl, rfl⟩|⟨rfl, rfl⟩)
  · refine aS (aR ?_)
    refine oC (oLt rfl rfl rfl) ?_
    refine oN ?_
    refine aS (aC rfl (fun h => ?_) (fun h => absurd h (by decide)))
    refine aW ?_
    refine aS (aB ?_)
    refine aS (aR ?_)
    refine oC (op_ixA sl23 rfl rfl rfl rfl (by simp)) ?_
    refine oC (op_lde ty90 rfl rfl (rfl : [a, b, c, d][0]? = some a) rfl) ?_
    refine oC (oX (o := 8) z90 rfl rfl) ?_
    refine oC (op_st ty90 rfl rfl (Conv.of rfl) rfl) ?_
    refine oN ?_
    refine dS ?_
    refine dC (oF f26_1_WrldA rfl rfl) ?_
    refine dC (oD ty23_NRef rfl rfl rfl) ?_
    refine dC (oD ty90 rfl rfl rfl) ?_
    refine dC (oL fb125 (.cons rfl (Conv.of rfl) (.nil _)) (nodeCopied_ct _ ha) (aK rfl rfl aK0) rfl rfl) ?_
    refine dC (op_bsl sl23 z90 (.cons rfl (Conv.of rfl) (.nil _)) rfl (by decide) rfl) ?_
    refine dC (op_apA (o' := 12) sl23 z90 ul23 rfl rfl rfl rfl (by simp) (by simp) (by simp) rfl) ?_
    refine dC (oF f26_1_WrldA rfl rfl) ?_
    refine dC (op_st ty23_NRef rfl rfl (Conv.of rfl) rfl) ?_
    refine dr_nil mixed rfl ?_
    refine aR ?_
    refine oC (oP rfl rfl rfl (by omega)) ?_
    refine oC (oM rfl (Conv.of rfl) rfl) ?_
    refine oN ?_
    repeat first | refine nS ?_ | refine nB ?_
    exact ⟨3, _, by decide, .inr (.inl ⟨rfl, rfl⟩), Le.mk rfl (tlb rfl rfl rfl (tlb rfl rfl rfl (tlb rfl rfl rfl (tle rfl (rfl) rfl (tle rfl (rfl) rfl tln))))) (olk rfl (by exact bA) (olk rfl (by exact obOkW0) (olk rfl (by exact obOkW rfl) (olk rfl (by exact bA) oln)))) (hU (a := [(1, .arr [a, b, c, d])]) rfl)⟩
  · refine aS (aR ?_)
    refine oC (oLt rfl rfl rfl) ?_
    refine oN ?_
    refine aS (aC rfl (fun h => ?_) (fun h => absurd h (by decide)))
    refine aW ?_
    refine aS (aB ?_)
    refine aS (aR ?_)
    refine oC (op_ixA sl23 rfl rfl rfl rfl (by simp)) ?_
    refine oC (op_lde ty90 rfl rfl (rfl : [a, b, c, d][1]? = some b) rfl) ?_
    refine oC (oX (o := 8) z90 rfl rfl) ?_
    refine oC (op_st ty90 rfl rfl (Conv.of rfl) rfl) ?_
    refine oN ?_
    refine dS ?_
    refine dC (oF f26_1_WrldA rfl rfl) ?_
    refine dC (oD ty23_NRef rfl rfl rfl) ?_
    refine dC (oD ty90 rfl rfl rfl) ?_
    refine dC (oL fb125 (.cons rfl (Conv.of rfl) (.nil _)) (nodeCopied_ct _ hb) (aK rfl rfl aK0) rfl rfl) ?_
    refine dC (op_bsl sl23 z90 (.cons rfl (Conv.of rfl) (.nil _)) rfl (by decide) rfl) ?_
    refine dC (op_apA (o' := 13) sl23 z90 ul23 rfl rfl rfl rfl (by simp) (by simp) (by simp) rfl) ?_
    refine dC (oF f26_1_WrldA rfl rfl) ?_
    refine dC (op_st ty23_NRef rfl rfl (Conv.of rfl) rfl) ?_
    refine dr_nil mixed rfl ?_
    refine aR ?_
    refine oC (oP rfl rfl rfl (by omega)) ?_
    refine oC (oM rfl (Conv.of rfl) rfl) ?_
    refine oN ?_
    repeat first | refine nS ?_ | refine nB ?_
    exact ⟨2, _, by decide, .inr (.inr (.inl ⟨rfl, rfl⟩)), Le.mk rfl (tlb rfl rfl rfl (tlb rfl rfl rfl (tlb rfl rfl rfl (tle rfl (rfl) rfl (tle rfl (rfl) rfl tln))))) (olk rfl (by exact bA) (olk rfl (by exact obOkW0) (olk rfl (by exact obOkW rfl) (olk rfl (by exact bA) oln)))) (hU (a := [(1, .arr [a, b, c, d])]) rfl)⟩
  · refine aS (aR ?_)
    refine oC (oLt rfl rfl rfl) ?_
    refine oN ?_
    refine aS (aC rfl (fun h => ?_) (fun h => absurd h (by decide)))
    refine aW ?_
    refine aS (aB ?_)
    refine aS (aR ?_)
    refine oC (op_ixA sl23 rfl rfl rfl rfl (by simp)) ?_
    refine oC (op_lde ty90 rfl rfl (rfl : [a, b, c, d][2]? = some c) rfl) ?_
    refine oC (oX (o := 8) z90 rfl rfl) ?_
    refine oC (op_st ty90 rfl rfl (Conv.of rfl) rfl) ?_
    refine oN ?_
    refine dS ?_
    refine dC (oF f26_1_WrldA rfl rfl) ?_
    refine dC (oD ty23_NRef rfl rfl rfl) ?_
    refine dC (oD ty90 rfl rfl rfl) ?_
    refine dC (oL fb125 (.cons rfl (Conv.of rfl) (.nil _)) (nodeCopied_ct _ hc) (aK rfl rfl aK0) rfl rfl) ?_
    refine dC (op_bsl sl23 z90 (.cons rfl (Conv.of rfl) (.nil _)) rfl (by decide) rfl) ?_
    refine dC (op_apA (o' := 14) sl23 z90 ul23 rfl rfl rfl rfl (by simp) (by simp) (by simp) rfl) ?_
    refine dC (oF f26_1_WrldA rfl rfl) ?_
    refine dC (op_st ty23_NRef rfl rfl (Conv.of rfl) rfl) ?_
    refine dr_nil mixed rfl ?_
    refine aR ?_
    refine oC (oP rfl rfl rfl (by omega)) ?_
    refine oC (oM rfl (Conv.of rfl) rfl) ?_
    refine oN ?_
    repeat first | refine nS ?_ | refine nB ?_
    exact ⟨1, _, by decide, .inr (.inr (.inr (.inl ⟨rfl, rfl⟩))), Le.mk rfl (tlb rfl rfl rfl (tlb rfl rfl rfl (tlb rfl rfl rfl (tle rfl (rfl) rfl (tle rfl (rfl) rfl tln))))) (olk rfl (by exact bA) (olk rfl (by exact obOkW0) (olk rfl (by exact obOkW rfl) (olk rfl (by exact bA) oln)))) (hU (a := [(1, .arr [a, b, c, d])]) rfl)⟩
  · refine aS (aR ?_)
    refine oC (oLt rfl rfl rfl) ?_
    refine oN ?_
    refine aS (aC rfl (fun h => ?_) (fun h => absurd h (by decide)))
    refine aW ?_
    refine aS (aB ?_)
    refine aS (aR ?_)
    refine oC (op_ixA sl23 rfl rfl rfl rfl (by simp)) ?_
    refine oC (op_lde ty90 rfl rfl (rfl : [a, b, c, d][3]? = some d) rfl) ?_
    refine oC (oX (o := 8) z90 rfl rfl) ?_
    refine oC (op_st ty90 rfl rfl (Conv.of rfl) rfl) ?_
    refine oN ?_
    refine dS ?_
    refine dC (oF f26_1_WrldA rfl rfl) ?_
    refine dC (oD ty23_NRef rfl rfl rfl) ?_
    refine dC (oD ty90 rfl rfl rfl) ?_
    refine dC (oL fb125 (.cons rfl (Conv.of rfl) (.nil _)) (nodeCopied_ct _ hd) (aK rfl rfl aK0) rfl rfl) ?_
    refine dC (op_bsl sl23 z90 (.cons rfl (Conv.of rfl) (.nil _)) rfl (by decide) rfl) ?_
    refine dC (op_apA (o' := 2) sl23 z90 ul23 rfl rfl rfl rfl (by simp) (by simp) (by simp) rfl) ?_
    refine dC (oF f26_1_WrldA rfl rfl) ?_
    refine dC (op_st ty23_NRef rfl rfl (Conv.of rfl) rfl) ?_
    refine dr_nil mixed rfl ?_
    refine aR ?_
    refine oC (oP rfl rfl rfl (by omega)) ?_
    refine oC (oM rfl (Conv.of rfl) rfl) ?_
    refine oN ?_
    repeat first | refine nS ?_ | refine nB ?_
    exact ⟨0, _, by decide, .inr (.inr (.inr (.inr (⟨rfl, rfl⟩)))), Le.mk rfl (tlb rfl rfl rfl (tlb rfl rfl rfl (tlb rfl rfl rfl (tle rfl (rfl) rfl (tle rfl (rfl) rfl tln))))) (olk rfl (by exact bA) (olk rfl (by exact obOkW0) (olk rfl (by exact obOkW rfl) (olk rfl (by exact bA) oln)))) (hU (a := [(1, .arr [a, b, c, d])]) rfl)⟩
  · refine aS (aR ?_)
    refine oC (oLt rfl rfl rfl) ?_
    refine oN ?_
    refine aS (aC rfl (fun h => absurd h (by decide)) (fun h => ?_))
    refine aE ?_
    repeat refine ex_seq ?_
    refine eB ?_
    refine aS (aR ?_)
    refine oC (oD ty26_WrldA rfl rfl rfl) ?_
    refine oC (op_st ty26_WrldA rfl rfl (Conv.of rfl) rfl) ?_
    refine oN ?_
    refine aT ?_
    repeat first | refine rS ?_ | refine rB ?_
    refine ⟨_, _, res1 (ol := [(1, .arr [a, b, c, d]), (2, .arr [a, b, c, d])]) (.rc ty26_WrldA rfl rfl) (fun o ho => ?_) (olk rfl bA (olk rfl bA oln)) (hU (a := [(1, .arr [a, b, c, d])]) rfl), rfl, rfl⟩
    have : o = 2 := by simpa using (show o ∈ [2] from ho)
    subst this; rfl
theorem copiedP_ct (e : Int) (a b c d : Nod) (l : List Vote) (bd : Int) (hl : Gd l) (ha : Gd a.seen) (hb : Gd b.seen) (hc : Gd c.seen) (hd : Gd d.seen) :
    Ct Tryz.prog 66 [.v (Wrld.mk e [a, b, c, d] l bd)] noObj (fun r1 h1 => r1 = .v (WrldA.mk e (.ref 1) l bd) ∧ h1 = obs [(1, .arr [a, b, c, d])]) := by
  refine Ct.intro Tryz.func66 rfl rfl ?_
  refine aS (aR ?_)
  refine oC (op_box (o := 5) ty26 rfl (Conv.of rfl) rfl rfl) ?_
  refine oC (oX (o := 6) z26_WrldA rfl rfl) ?_
  refine oN ?_
  refine aS (dS ?_)
  refine dC (oF f26_0 rfl rfl) ?_
  refine dC (oD ty3 rfl rfl rfl) ?_
  refine dC (oF f26_1 rfl rfl) ?_
  refine dC (oD ty23 rfl rfl rfl) ?_
  refine dC (oE sl23 rfl rfl) ?_
  refine dC (op_mka (o := 11) sl23 z90 rfl rfl (by (simp)) (by (simp)) (by (simp)) rfl rfl) ?_
  refine dC (oF f26_2 rfl rfl) ?_
  refine dC (oD ty24 rfl rfl rfl) ?_
  refine dC (oL fb124 (.cons rfl (Conv.of rfl) (.nil _)) (votesCopied_ct _ hl.l' hl.v) (aK rfl rfl aK0) rfl rfl) ?_
  refine dC (oF f26_3 rfl rfl) ?_
  refine dC (oD ty3 rfl rfl rfl) ?_
  refine dC (op_build (.cons f26_0_WrldA rfl (Conv.of rfl) (.cons f26_1_WrldA rfl (Conv.nr) (.cons f26_2_WrldA rfl (Conv.ol) (.cons f26_3_WrldA rfl (Conv.of rfl) (.nil _))))) z26_WrldA rfl pl26 rfl) ?_
  refine dC (oX (o := 7) z26_WrldA rfl rfl) ?_
  refine dC (op_st ty26_WrldA rfl rfl (Conv.of rfl) rfl) ?_
  refine dr_nil mixed rfl ?_
  refine aS (aS (aR ?_))
  refine oC (oF f26_1 rfl rfl) ?_
  refine oC (oD ty23 rfl rfl rfl) ?_
  refine oC (oE sl23 rfl rfl) ?_
  refine oC (oM rfl (Conv.of rfl) rfl) ?_
  refine oN ?_
  refine aB ?_
  refine awp_loop' (fun n s => (n = 4 ∧ s = mkSt 34 [(2, .box 6 (IsLens.whole WrldA)), (3, .box 7 (IsLens.whole WrldA)), (19, .v [a, b, c, d]), (20, .v (4 : Int)), (21, .v (0 : Int))] [(6, .cell WrldA.zero), (7, .cell (WrldA.mk e (.ref 11) l bd)), (11, .arr ([] : List Nod))]) ∨ (n = 3 ∧ s = mkSt 34 [(2, .box 6 (IsLens.whole WrldA)), (3, .box 7 (IsLens.whole WrldA)), (19, .v [a, b, c, d]), (20, .v (4 : Int)), (21, .v (1 : Int))] [(6, .cell WrldA.zero), (7, .cell (WrldA.mk e (.ref 12) l bd)), (12, .arr ([a] : List Nod))]) ∨ (n = 2 ∧ s = mkSt 34 [(2, .box 6 (IsLens.whole WrldA)), (3, .box 7 (IsLens.whole WrldA)), (19, .v [a, b, c, d]), (20, .v (4 : Int)), (21, .v (2 : Int))] [(6, .cell WrldA.zero), (7, .cell (WrldA.mk e (.ref 13) l bd)), (13, .arr ([a, b] : List Nod))]) ∨ (n = 1 ∧ s = mkSt 34 [(2, .box 6 (IsLens.whole WrldA)), (3, .box 7 (IsLens.whole WrldA)), (19, .v [a, b, c, d]), (20, .v (4 : Int)), (21, .v (3 : Int))] [(6, .cell WrldA.zero), (7, .cell (WrldA.mk e (.ref 14) l bd)), (14, .arr ([a, b, c] : List Nod))]) ∨ (n = 0 ∧ s = mkSt 34 [(2, .box 6 (IsLens.whole WrldA)), (3, .box 7 (IsLens.whole WrldA)), (19, .v [a, b, c, d]), (20, .v (4 : Int)), (21, .v (4 : Int))] [(6, .cell WrldA.zero), (7, .cell (WrldA.mk e (.ref 1) l bd)), (1, .arr ([a, b, c, d] : List Nod))])) 4 (.inl ⟨rfl, rfl⟩) (Le.mk rfl (tlb rfl rfl rfl (tlb rfl rfl rfl (tle rfl (rfl) rfl (tle rfl (rfl) rfl (tle rfl (rfl) rfl tln))))) (olk rfl (by exact obOkW0) (olk rfl (by exact obOkW rfl) (olk rfl (by exact bA) oln))) noS) ?_
  rintro n s (⟨rfl, rfl⟩|⟨rfl, rfl⟩|⟨rfl, rfl⟩|⟨rfl, rfl⟩|⟨rfl, rfl⟩)
  · refine aS (aR ?_)
    refine oC (oLt rfl rfl rfl) ?_
    refine oN ?_
    refine aS (aC rfl (fun h => ?_) (fun h => absurd h (by decide)))
    refine aW ?_
    refine aS (aB ?_)
    refine aS (aR ?_)
    refine oC (op_ix sl23 rfl rfl rfl (by omega) (rfl : [a, b, c, d][0]? = some a)) ?_
    refine oC (oDR ty90 rfl rfl) ?_
    refine oC (oX (o := 8) z90 rfl rfl) ?_
    refine oC (op_st ty90 rfl rfl (Conv.of rfl) rfl) ?_
    refine oN ?_
    refine dS ?_
    refine dC (oF f26_1_WrldA rfl rfl) ?_
    refine dC (oD ty23_NRef rfl rfl rfl) ?_
    refine dC (oD ty90 rfl rfl rfl) ?_
    refine dC (oL fb125 (.cons rfl (Conv.of rfl) (.nil _)) (nodeCopied_ct _ ha) (aK rfl rfl aK0) rfl rfl) ?_
    refine dC (op_bsl sl23 z90 (.cons rfl (Conv.of rfl) (.nil _)) rfl (by decide) rfl) ?_
    refine dC (op_apA (o' := 12) sl23 z90 ul23 rfl rfl rfl rfl (by simp) (by simp) (by simp) rfl) ?_
    refine dC (oF f26_1_WrldA rfl rfl) ?_
    refine dC (op_st ty23_NRef rfl rfl (Conv.of rfl) rfl) ?_
    refine dr_nil mixed rfl ?_
    refine aR ?_
    refine oC (oP rfl rfl rfl (by omega)) ?_
    refine oC (oM rfl (Conv.of rfl) rfl) ?_
    refine oN ?_
    repeat first | refine nS ?_ | refine nB ?_
    exact ⟨3, _, by decide, .inr (.inl ⟨rfl, rfl⟩), Le.mk rfl (tlb rfl rfl rfl (tlb rfl rfl rfl (tle rfl (rfl) rfl (tle rfl (rfl) rfl (tle rfl (rfl) rfl tln))))) (olk rfl (by exact obOkW0) (olk rfl (by exact obOkW rfl) (olk rfl (by exact bA) oln))) noS⟩
  · refine aS (aR ?_)
    refine oC (oLt rfl rfl rfl) ?_
    refine oN ?_
    refine aS (aC rfl (fun h => ?_) (fun h => absurd h (by decide)))
    refine aW ?_
    refine aS (aB ?_)
    refine aS (aR ?_)
    refine oC (op_ix sl23 rfl rfl rfl (by omega) (rfl : [a, b, c, d][1]? = some b)) ?_
    refine oC (oDR ty90 rfl rfl) ?_
    refine oC (oX (o := 8) z90 rfl rfl) ?_
    refine oC (op_st ty90 rfl rfl (Conv.of rfl) rfl) ?_
    refine oN ?_
    refine dS ?_
    refine dC (oF f26_1_WrldA rfl rfl) ?_
    refine dC (oD ty23_NRef rfl rfl rfl) ?_
    refine dC (oD ty90 rfl rfl rfl) ?_
    refine dC (oL fb125 (.cons rfl (Conv.of rfl) (.nil _)) (nodeCopied_ct _ hb) (aK rfl rfl aK0) rfl rfl) ?_
    refine dC (op_bsl sl23 z90 (.cons rfl (Conv.of rfl) (.nil _)) rfl (by decide) rfl) ?_
    refine dC (op_apA (o' := 13) sl23 z90 ul23 rfl rfl rfl rfl (by simp) (by simp) (by simp) rfl) ?_
    refine dC (oF f26_1_WrldA rfl rfl) ?_
    refine dC (op_st ty23_NRef rfl rfl (Conv.of rfl) rfl) ?_
    refine dr_nil mixed rfl ?_
    refine aR ?_
    refine oC (oP rfl rfl rfl (by omega)) ?_
    refine oC (oM rfl (Conv.of rfl) rfl) ?_
    refine oN ?_
    repeat first | refine nS ?_ | refine nB ?_
    exact ⟨2, _, by decide, .inr (.inr (.inl ⟨rfl, rfl⟩)), Le.mk rfl (tlb rfl rfl rfl (tlb rfl rfl rfl (tle rfl (rfl) rfl (tle rfl (rfl) rfl (tle rfl (rfl) rfl tln))))) (olk rfl (by exact obOkW0) (olk rfl (by exact obOkW rfl) (olk rfl (by exact bA) oln))) noS⟩
  · refine aS (aR ?_)
    refine oC (oLt rfl rfl rfl) ?_
    refine oN ?_
    refine aS (aC rfl (fun h => ?_) (fun h => absurd h (by decide)))
    refine aW ?_
    refine aS (aB ?_)
    refine aS (aR ?_)
    refine oC (op_ix sl23 rfl rfl rfl (by omega) (rfl : [a, b, c, d][2]? = some c)) ?_
    refine oC (oDR ty90 rfl rfl) ?_
    refine oC (oX (o := 8) z90 rfl rfl) ?_
    refine oC (op_st ty90 rfl rfl (Conv.of rfl) rfl) ?_
    refine oN ?_
    refine dS ?_
    refine dC (oF f26_1_WrldA rfl rfl) ?_
    refine dC (oD ty23_NRef rfl rfl rfl) ?_
    refine dC (oD ty90 rfl rfl rfl) ?_
    refine dC (oL fb125 (.cons rfl (Conv.of rfl) (.nil _)) (nodeCopied_ct _ hc) (aK rfl rfl aK0) rfl rfl) ?_
    refine dC (op_bsl sl23 z90 (.cons rfl (Conv.of rfl) (.nil _)) rfl (by decide) rfl) ?_
    refine dC (op_apA (o' := 14) sl23 z90 ul23 rfl rfl rfl rfl (by simp) (by simp) (by simp) rfl) ?_
    refine dC (oF f26_1_WrldA rfl rfl) ?_
    refine dC (op_st ty23_NRef rfl rfl (Conv.of rfl) rfl) ?_
    refine dr_nil mixed rfl ?_
    refine aR ?_
    refine oC (oP rfl rfl rfl (by omega)) ?_
    refine oC (oM rfl (Conv.of rfl) rfl) ?_
    refine oN ?_
    repeat first | refine nS ?_ | refine nB ?_
    exact ⟨1, _, by decide, .inr (.inr (.inr (.inl ⟨rfl, rfl⟩))), Le.mk rfl (tlb rfl rfl rfl (tlb rfl rfl rfl (tle rfl (rfl) rfl (tle rfl (rfl) rfl (tle rfl (rfl) rfl tln))))) (olk rfl (by exact obOkW0) (olk rfl (by exact obOkW rfl) (olk rfl (by exact bA) oln))) noS⟩
  · refine aS (aR ?_)
    refine oC (oLt rfl rfl rfl) ?_
    refine oN ?_
    refine aS (aC rfl (fun h => ?_) (fun h => absurd h (by decide)))
    refine aW ?_
    refine aS (aB ?_)
    refine aS (aR ?_)
    refine oC (op_ix sl23 rfl rfl rfl (by omega) (rfl : [a, b, c, d][3]? = some d)) ?_
    refine oC (oDR ty90 rfl rfl) ?_
    refine oC (oX (o := 8) z90 rfl rfl) ?_
    refine oC (op_st ty90 rfl rfl (Conv.of rfl) rfl) ?_
    refine oN ?_
    refine dS ?_
    refine dC (oF f26_1_WrldA rfl rfl) ?_
    refine dC (oD ty23_NRef rfl rfl rfl) ?_
    refine dC (oD ty90 rfl rfl rfl) ?_
    refine dC (oL fb125 (.cons rfl (Conv.of rfl) (.nil _)) (nodeCopied_ct _ hd) (aK rfl rfl aK0) rfl rfl) ?_
    refine dC (op_bsl sl23 z90 (.cons rfl (Conv.of rfl) (.nil _)) rfl (by decide) rfl) ?_
    refine dC (op_apA (o' := 1) sl23 z90 ul23 rfl rfl rfl rfl (by simp) (by simp) (by simp) rfl) ?_
    refine dC (oF f26_1_WrldA rfl rfl) ?_
    refine dC (op_st ty23_NRef rfl rfl (Conv.of rfl) rfl) ?_
    refine dr_nil mixed rfl ?_
    refine aR ?_
    refine oC (oP rfl rfl rfl (by omega)) ?_
    refine oC (oM rfl (Conv.of rfl) rfl) ?_
    refine oN ?_
    repeat first | refine nS ?_ | refine nB ?_
    exact ⟨0, _, by decide, .inr (.inr (.inr (.inr (⟨rfl, rfl⟩)))), Le.mk rfl (tlb rfl rfl rfl (tlb rfl rfl rfl (tle rfl (rfl) rfl (tle rfl (rfl) rfl (tle rfl (rfl) rfl tln))))) (olk rfl (by exact obOkW0) (olk rfl (by exact obOkW rfl) (olk rfl (by exact bA) oln))) noS⟩
  · refine aS (aR ?_)
    refine oC (oLt rfl rfl rfl) ?_
    refine oN ?_
    refine aS (aC rfl (fun h => absurd h (by decide)) (fun h => ?_))
    refine aE ?_
    repeat refine ex_seq ?_
    refine eB ?_
    refine aS (aR ?_)
    refine oC (oD ty26_WrldA rfl rfl rfl) ?_
    refine oC (op_st ty26_WrldA rfl rfl (Conv.of rfl) rfl) ?_
    refine oN ?_
    refine aT ?_
    repeat first | refine rS ?_ | refine rB ?_
    refine ⟨_, _, res1 (ol := [(1, .arr [a, b, c, d])]) (.rc ty26_WrldA rfl rfl) (fun o ho => ?_) (olk rfl bA oln) noS, rfl, rfl⟩
    have : o = 1 := by simpa using (show o ∈ [1] from ho)
    subst this; rfl
end Go.Proofs.YtmhmeppocbcmeaaGreat

/- A play. -/
set_option linter.unusedVariables false
set_option linter.unusedSimpArgs false
namespace Go.Proofs.YtmhmeppocbcmeaaGreat
open Go Go.Wt
theorem copiedA_w (w : Wrld) (h : Fine w) : Ct Tryz.prog 66 [.v (wA w)] (obs [(1, .arr w.nodes)]) (fun r1 h1 => r1 = .v (WrldA.mk w.epoch (.ref 2) w.log w.bad) ∧ h1 = obs [(1, .arr w.nodes), (2, .arr w.nodes)]) := by
  obtain ⟨e, ns, l, bd⟩ := w
  have h4 := h.four
  have hs := h.seen
  match ns, h4, hs with
  | [a, b, c, d], _, hs => exact copiedA_ct e a b c d l bd h.log (hs a (by simp)) (hs b (by simp)) (hs c (by simp)) (hs d (by simp))
theorem copiedP_w (w : Wrld) (h : Fine w) : Ct Tryz.prog 66 [.v w] noObj (fun r1 h1 => r1 = .v (WrldA.mk w.epoch (.ref 1) w.log w.bad) ∧ h1 = obs [(1, .arr w.nodes)]) := by
  obtain ⟨e, ns, l, bd⟩ := w
  have h4 := h.four
  have hs := h.seen
  match ns, h4, hs with
  | [a, b, c, d], _, hs => exact copiedP_ct e a b c d l bd h.log (hs a (by simp)) (hs b (by simp)) (hs c (by simp)) (hs d (by simp))
theorem playBad_ct (bad : Int) (evs : List Evt) (hb : within bad 0 4 = false) : CtP Tryz.prog 17 [.v bad, .v evs] (.tup [.v WrldA.zero, .v false]) := by
  refine Ct.intro Tryz.func17 rfl rfl ?_
  all_goals refine aS (aR ?_)
  all_goals refine oC (oX (o := 0) z26_WrldA rfl rfl) ?_
  all_goals refine oC (oA rfl (Conv.of rfl) rfl) ?_
  all_goals refine oN ?_
  all_goals refine aS (aR ?_)
  all_goals refine oC (oM rfl (Conv.of rfl) rfl) ?_
  all_goals refine oC (oL fb64 (.cons rfl (Conv.of rfl) (.nil _)) (worldNewBad_ct bad hb) (aK rfl rfl aK0) rfl rfl) ?_
  all_goals refine oC (oM rfl (Conv.of rfl) rfl) ?_
  all_goals refine oC (op_ext rfl rfl rfl) ?_
  all_goals refine oC (op_ext rfl rfl rfl) ?_
  all_goals refine oC (oX (o := 1) z26_WrldA rfl rfl) ?_
  all_goals refine oC (op_st ty26_WrldA rfl rfl (Conv.of rfl) rfl) ?_
  all_goals refine oC (oA rfl (Conv.of rfl) rfl) ?_
  all_goals refine oN ?_
  all_goals refine aS (aS (aR ?_))
  all_goals refine oC (oM rfl (Conv.of rfl) rfl) ?_
  all_goals refine oC (op_not rfl rfl) ?_
  all_goals refine oC (oM rfl (Conv.of rfl) rfl) ?_
  all_goals refine g_lit (t := 17) (b := true) rfl ?_
  all_goals refine oC (gF rfl rfl rfl rfl rfl) ?_
  all_goals refine oC (gF rfl rfl rfl rfl rfl) ?_
  all_goals refine oC (gF rfl rfl rfl rfl rfl) ?_
  all_goals refine oC (oQ rfl rfl rfl rfl) ?_
  all_goals refine oN ?_
  refine aC rfl (fun h => ?_) (fun h => absurd h (by decide))
  all_goals refine aS (aR ?_)
  all_goals refine oC (op_build (.nil _) z26_WrldA rfl pl26 rfl) ?_
  all_goals refine oC (op_st ty26_WrldA rfl rfl (Conv.of rfl) rfl) ?_
  all_goals refine oC (oA rfl (Conv.of rfl) rfl) ?_
  all_goals refine oN ?_
  refine aT ?_
  repeat first | refine rS ?_ | refine rB ?_
  exact finN (.cons (.rc ty26_WrldA rfl rfl) (.cons (.v rfl (Conv.of rfl)) .nil)) rfl rfl rfl
theorem playLong_ct (bad : Int) (evs : List Evt) (hb : within bad 0 4 = true) (hl : 70 < evs.length) : CtP Tryz.prog 17 [.v bad, .v evs] (.tup [.v WrldA.zero, .v false]) := by
  refine Ct.intro Tryz.func17 rfl rfl ?_
  all_goals refine aS (aR ?_)
  all_goals refine oC (oX (o := 5) z26_WrldA rfl rfl) ?_
  all_goals refine oC (oA rfl (Conv.of rfl) rfl) ?_
  all_goals refine oN ?_
  all_goals refine aS (aR ?_)
  all_goals refine oC (oM rfl (Conv.of rfl) rfl) ?_
  refine awpOps_callO [] rfl fb64 (.cons rfl (Conv.of rfl) (.nil _)) (worldNew_ct bad hb) ols0 k0 (argOk' rfl rfl argO0) rfl ?_
  rintro r h' ⟨rfl, rfl⟩
  refine ⟨[(1, .arr (newW bad).nodes)], rfl, (fun o ho => by cases ho), fun o ho _ => ?_, kK bA k0, fun o ho => ?_, ?_⟩
  · have : o = 1 := by simpa [keys, lk0] using ho
    subst this; rfl
  · have : o = 1 := by simpa using (show o ∈ [1] from ho)
    subst this; rfl
  all_goals refine oC (oM rfl (Conv.of rfl) rfl) ?_
  all_goals refine oC (op_ext rfl rfl rfl) ?_
  all_goals refine oC (op_ext rfl rfl rfl) ?_
  all_goals refine oC (oX (o := 0) z26_WrldA rfl rfl) ?_
  all_goals refine oC (op_st ty26_WrldA rfl rfl (Conv.of rfl) rfl) ?_
  all_goals refine oC (oA rfl (Conv.of rfl) rfl) ?_
  all_goals refine oN ?_
  all_goals refine aS (aS (aR ?_))
  all_goals refine oC (oM rfl (Conv.of rfl) rfl) ?_
  all_goals refine oC (op_not rfl rfl) ?_
  all_goals refine oC (oM rfl (Conv.of rfl) rfl) ?_
  all_goals refine g_lit (t := 17) (b := false) rfl ?_
  all_goals refine oC (gN rfl rfl rfl (oM rfl (Conv.of rfl) rfl)) ?_
  all_goals refine oC (gN rfl rfl rfl (oE sl45 rfl rfl)) ?_
  all_goals refine oC (gN rfl rfl rfl (op_gtr rfl rfl rfl)) ?_
  all_goals refine oC (oQ rfl rfl rfl rfl) ?_
  all_goals refine oN ?_
  refine aC rfl (fun h => ?_) (fun h => ?_)
  · all_goals refine aS (aR ?_)
    all_goals refine oC (op_build (.nil _) z26_WrldA rfl pl26 rfl) ?_
    all_goals refine oC (op_st ty26_WrldA rfl rfl (Conv.of rfl) rfl) ?_
    all_goals refine oC (oA rfl (Conv.of rfl) rfl) ?_
    all_goals refine oN ?_
    refine aT ?_
    repeat first | refine rS ?_ | refine rB ?_
    exact finN (.cons (.rc ty26_WrldA rfl rfl) (.cons (.v rfl (Conv.of rfl)) .nil)) rfl rfl rfl
  · exfalso
    simp at h
    omega
theorem playA_ct (bad : Int) (evs : List Evt) (hb : within bad 0 4 = true) (hl : evs.length ≤ 70) : Ct Tryz.prog 17 [.v bad, .v evs] noObj (fun r1 h1 => r1 = .tup [.v (WrldA.mk (playF bad evs).epoch (.ref 2) (playF bad evs).log (playF bad evs).bad), .v true] ∧ h1 = obs [(2, .arr (playF bad evs).nodes)]) := by
  refine Ct.intro Tryz.func17 rfl rfl ?_
  all_goals refine aS (aR ?_)
  all_goals refine oC (oX (o := 5) z26_WrldA rfl rfl) ?_
  all_goals refine oC (oA rfl (Conv.of rfl) rfl) ?_
  all_goals refine oN ?_
  all_goals refine aS (aR ?_)
  all_goals refine oC (oM rfl (Conv.of rfl) rfl) ?_
  refine awpOps_callO [] rfl fb64 (.cons rfl (Conv.of rfl) (.nil _)) (worldNew_ct bad hb) ols0 k0 (argOk' rfl rfl argO0) rfl ?_
  rintro r h' ⟨rfl, rfl⟩
  refine ⟨[(1, .arr (newW bad).nodes)], rfl, (fun o ho => by cases ho), fun o ho _ => ?_, kK bA k0, fun o ho => ?_, ?_⟩
  · have : o = 1 := by simpa [keys, lk0] using ho
    subst this; rfl
  · have : o = 1 := by simpa using (show o ∈ [1] from ho)
    subst this; rfl
  all_goals refine oC (oM rfl (Conv.of rfl) rfl) ?_
  all_goals refine oC (op_ext rfl rfl rfl) ?_
  all_goals refine oC (op_ext rfl rfl rfl) ?_
  all_goals refine oC (oX (o := 0) z26_WrldA rfl rfl) ?_
  all_goals refine oC (op_st ty26_WrldA rfl rfl (Conv.of rfl) rfl) ?_
  all_goals refine oC (oA rfl (Conv.of rfl) rfl) ?_
  all_goals refine oN ?_
  all_goals refine aS (aS (aR ?_))
  all_goals refine oC (oM rfl (Conv.of rfl) rfl) ?_
  all_goals refine oC (op_not rfl rfl) ?_
  all_goals refine oC (oM rfl (Conv.of rfl) rfl) ?_
  all_goals refine g_lit (t := 17) (b := false) rfl ?_
  all_goals refine oC (gN rfl rfl rfl (oM rfl (Conv.of rfl) rfl)) ?_
  all_goals refine oC (gN rfl rfl rfl (oE sl45 rfl rfl)) ?_
  all_goals refine oC (gN rfl rfl rfl (op_gtr rfl rfl rfl)) ?_
  all_goals refine oC (oQ rfl rfl rfl rfl) ?_
  all_goals refine oN ?_
  refine aC rfl (fun h => ?_) (fun h => ?_)
  · exfalso
    simp at h
    omega
  · refine aW ?_
    all_goals refine aS (aS (aR ?_))
    all_goals refine oC (oM rfl (Conv.of rfl) rfl) ?_
    all_goals refine oC (oE sl45 rfl rfl) ?_
    all_goals refine oC (oM rfl (Conv.of rfl) rfl) ?_
    all_goals refine oN ?_
    refine aB ?_
    refine awp_loop' (fun n s => ∃ (k : Nat), ∃ (hn : n + k = evs.length), s = mkSt 34 [(4, .box 5 (IsLens.whole WrldA)), (6, .box 0 (IsLens.whole WrldA)), (23, .v evs), (24, .v (evs.length : Int)), (25, .v (k : Int))] [(0, .cell (wA ((evs.take k).foldl doF (newW bad)))), (1, .arr ((evs.take k).foldl doF (newW bad)).nodes), (5, .cell WrldA.zero)]) (evs.length) ⟨0, by omega, rfl⟩ (Le.mk rfl (tlb rfl rfl rfl (tlb rfl rfl rfl (tle rfl (rfl) rfl (tle rfl (rfl) rfl (tle rfl (rfl) rfl tln))))) (olk (by rfl) (by exact obOkW rfl) (olk (by rfl) (by exact bA) (olk rfl (by exact obOkW0) oln))) noS) ?_
    rintro n s ⟨k, hn, rfl⟩
    have hfine : Fine ((evs.take k).foldl doF (newW bad)) := foldl_fine _ (newW_fine bad)
    all_goals refine aS (aR ?_)
    all_goals refine oC (oLt rfl rfl rfl) ?_
    all_goals refine oN ?_
    refine aS (aC rfl (fun h => ?_) (fun h => ?_))
    · have hlt : k < evs.length := by simpa using h
      have hx : evs[k]? = some evs[k] := List.getElem?_eq_getElem hlt
      refine aW ?_
      refine aS (aB ?_)
      all_goals refine aS (aR ?_)
      all_goals refine oC (op_ix sl45 rfl rfl rfl (by omega) hx) ?_
      all_goals refine oC (oDR ty77 rfl rfl) ?_
      all_goals refine oC (oX (o := 6) z77 rfl rfl) ?_
      all_goals refine oC (op_st ty77 rfl rfl (Conv.of rfl) rfl) ?_
      all_goals refine oN ?_
      all_goals refine aR ?_
      all_goals refine oC (oD ty77 rfl rfl rfl) ?_
      all_goals refine oC (oLO fb65 (.cons rfl (Conv.of rfl) (.cons rfl (Conv.of rfl) (.nil _))) (do_ct _ evs[k] hfine) (olsk rfl (olsk rfl ols0)) (kK (by exact obOkW rfl) (kK (by exact bA) k0)) (kK (by exact obOkW rfl) (kK (by exact bA) k0)) rfl (argOb rfl rfl rfl (argOk' rfl rfl argO0)) (fun o ho => by cases ho) rfl) ?_
      all_goals refine oN ?_
      all_goals refine aR ?_
      all_goals refine oC (oP rfl rfl rfl (by omega)) ?_
      all_goals refine oC (oM rfl (Conv.of rfl) rfl) ?_
      all_goals refine oN ?_
      repeat first | refine nS ?_ | refine nB ?_
      exact ⟨n - 1, _, by omega, ⟨k + 1, by omega, rfl⟩, Le.mk rfl (tlb rfl rfl rfl (tlb rfl rfl rfl (tle rfl (rfl) rfl (tle rfl (rfl) rfl (tle rfl (rfl) rfl tln))))) (olk (by (rw [foldl_at doF _ hx]; rfl)) (by exact obOkW rfl) (olk (by (rw [foldl_at doF _ hx]; rfl)) (by exact bA) (olk rfl (by exact obOkW0) oln))) noS⟩
    · refine aE ?_
      repeat refine ex_seq ?_
      refine eB ?_
      have hk : evs.length ≤ k := by simpa using h
      have hp : (evs.take k).foldl doF (newW bad) = playF bad evs := by rw [take_end hk]; rfl
      rw [hp] at hfine ⊢
      all_goals refine aS (aR ?_)
      all_goals refine oC (oD ty26_WrldA rfl rfl rfl) ?_
      refine awpOps_callO [(1, .arr (playF bad evs).nodes)] rfl fb66 (.cons rfl (Conv.of rfl) (.nil _)) (copiedA_w _ hfine) (olsk rfl ols0) (kK bA k0) (argOb rfl rfl rfl argO0) rfl ?_
      rintro r h' ⟨rfl, rfl⟩
      refine ⟨[(1, .arr (playF bad evs).nodes), (2, .arr (playF bad evs).nodes)], rfl, fun o ho => ?_, fun o ho h1 => ?_, kK bA (kK bA k0), fun o ho => ?_, ?_⟩
      · have : o = 1 := by simpa [keys, lk0] using ho
        subst this; rfl
      · by_cases e : o = 1
        · subst e; cases h1
        · have : o = 2 := by simpa [keys, lk0, e] using ho
          subst this; rfl
      · have : o = 2 := by simpa using (show o ∈ [2] from ho)
        subst this; rfl
      all_goals refine oC (op_st ty26_WrldA rfl rfl (Conv.of rfl) rfl) ?_
      all_goals refine oC (oA rfl (Conv.of rfl) rfl) ?_
      all_goals refine oN ?_
      refine aT ?_
      repeat first | refine rS ?_ | refine rB ?_
      refine ⟨_, _, resN (ol := [(2, .arr (playF bad evs).nodes)]) (.cons (.rc ty26_WrldA rfl rfl) (.cons (.v rfl (Conv.of rfl)) .nil)) rfl (fun o ho => ?_) (olk rfl bA oln) noS, rfl, rfl⟩
      have : o = 2 := by simpa using (show o ∈ [2] from ho)
      subst this; rfl
end Go.Proofs.YtmhmeppocbcmeaaGreat

/- The reference: payments, chains, votes. -/
set_option linter.unusedVariables false
set_option linter.unusedSimpArgs false
namespace Go.Proofs.YtmhmeppocbcmeaaGreat
open Go Go.Wt
theorem l6In_ct (n lo hi : Int) : CtP Tryz.prog 50 [.v n, .v lo, .v hi] (.v (within n lo hi)) := by
  refine Ct.intro Tryz.func50 rfl rfl ?_
  all_goals refine aS (aR ?_)
  all_goals refine oC (oA rfl (Conv.of rfl) rfl) ?_
  all_goals refine oN ?_
  all_goals refine aS (aR ?_)
  all_goals refine oC (oM rfl (Conv.of rfl) rfl) ?_
  all_goals refine oC (oM rfl (Conv.of rfl) rfl) ?_
  all_goals refine oC (op_geq rfl rfl rfl) ?_
  all_goals refine oC (oM rfl (Conv.of rfl) rfl) ?_
  all_goals refine g_split (t := 10) rfl (fun h => ?_) (fun h => ?_)
  all_goals first | refine oC (gF rfl rfl rfl rfl rfl) ?_ | refine oC (gN rfl rfl rfl (oM rfl (Conv.of rfl) rfl)) ?_
  all_goals first | refine oC (gF rfl rfl rfl rfl rfl) ?_ | refine oC (gN rfl rfl rfl (oM rfl (Conv.of rfl) rfl)) ?_
  all_goals first | refine oC (gF rfl rfl rfl rfl rfl) ?_ | refine oC (gN rfl rfl rfl (op_leq rfl rfl rfl)) ?_
  all_goals refine oC (oQ rfl rfl rfl rfl) ?_
  all_goals refine oC (oA rfl (Conv.of rfl) rfl) ?_
  all_goals refine oN ?_
  all_goals refine aT ?_
  all_goals refine finP (.v rfl (Conv.of rfl)) rfl ?_
  all_goals (simp only [FV.av, within]; first | (rw [h]; rfl) | simp_all)
theorem sPayOk_ct (p : Pay) : CtP Tryz.prog 132 [.v p] (.v (payOk p)) := by
  refine Ct.intro Tryz.func132 rfl rfl ?_
  all_goals refine aS (aR ?_)
  all_goals refine oC (op_box (o := 0) ty75 rfl (Conv.of rfl) rfl rfl) ?_
  all_goals refine oC (oA rfl (Conv.of rfl) rfl) ?_
  all_goals refine oN ?_
  all_goals refine aS (aR ?_)
  all_goals refine oC (oF f75_0 rfl rfl) ?_
  all_goals refine oC (oD ty3 rfl rfl rfl) ?_
  all_goals refine oC (oL fb50 (.cons rfl (Conv.of rfl) (.cons rfl (Conv.of rfl) (.cons rfl (Conv.of rfl) (.nil _)))) (l6In_ct _ _ _) (aK rfl rfl (aK rfl rfl (aK rfl rfl aK0))) rfl rfl) ?_
  all_goals refine oC (oM rfl (Conv.of rfl) rfl) ?_
  all_goals refine g_split (t := 6) rfl (fun h => ?_) (fun h => ?_)
  all_goals first | refine oC (gF rfl rfl rfl rfl rfl) ?_ | refine oC (gN rfl rfl rfl (oF f75_1 rfl rfl)) ?_
  all_goals first | refine oC (gF rfl rfl rfl rfl rfl) ?_ | refine oC (gN rfl rfl rfl (oD ty3 rfl rfl rfl)) ?_
  all_goals first | refine oC (gF rfl rfl rfl rfl rfl) ?_ | refine oC (gN rfl rfl rfl (oL fb50 (.cons rfl (Conv.of rfl) (.cons rfl (Conv.of rfl) (.cons rfl (Conv.of rfl) (.nil _)))) (l6In_ct _ _ _) (aK rfl rfl (aK rfl rfl (aK rfl rfl aK0))) rfl rfl)) ?_
  all_goals refine oC (oQ rfl rfl rfl rfl) ?_
  all_goals refine oC (oM rfl (Conv.of rfl) rfl) ?_
  all_goals first | refine g_lit (t := 11) (b := false) rfl ?_ | refine g_split (t := 11) rfl (fun h => ?_) (fun h => ?_)
  all_goals first | refine oC (gF rfl rfl rfl rfl rfl) ?_ | refine oC (gN rfl rfl rfl (oF f75_0 rfl rfl)) ?_
  all_goals first | refine oC (gF rfl rfl rfl rfl rfl) ?_ | refine oC (gN rfl rfl rfl (oD ty3 rfl rfl rfl)) ?_
  all_goals first | refine oC (gF rfl rfl rfl rfl rfl) ?_ | refine oC (gN rfl rfl rfl (oF f75_1 rfl rfl)) ?_
  all_goals first | refine oC (gF rfl rfl rfl rfl rfl) ?_ | refine oC (gN rfl rfl rfl (oD ty3 rfl rfl rfl)) ?_
  all_goals first | refine oC (gF rfl rfl rfl rfl rfl) ?_ | refine oC (gN rfl rfl rfl (op_neq rfl rfl rfl)) ?_
  all_goals refine oC (oQ rfl rfl rfl rfl) ?_
  all_goals refine oC (oM rfl (Conv.of rfl) rfl) ?_
  all_goals first | refine g_lit (t := 18) (b := false) rfl ?_ | refine g_split (t := 18) rfl (fun h => ?_) (fun h => ?_)
  all_goals first | refine oC (gF rfl rfl rfl rfl rfl) ?_ | refine oC (gN rfl rfl rfl (oF f75_2 rfl rfl)) ?_
  all_goals first | refine oC (gF rfl rfl rfl rfl rfl) ?_ | refine oC (gN rfl rfl rfl (oD ty3 rfl rfl rfl)) ?_
  all_goals first | refine oC (gF rfl rfl rfl rfl rfl) ?_ | refine oC (gN rfl rfl rfl (oL fb50 (.cons rfl (Conv.of rfl) (.cons rfl (Conv.of rfl) (.cons rfl (Conv.of rfl) (.nil _)))) (l6In_ct _ _ _) (aK rfl rfl (aK rfl rfl (aK rfl rfl aK0))) rfl rfl)) ?_
  all_goals refine oC (oQ rfl rfl rfl rfl) ?_
  all_goals refine oC (oA rfl (Conv.of rfl) rfl) ?_
  all_goals refine oN ?_
  all_goals refine aT ?_
  all_goals refine finP (.v rfl (Conv.of rfl)) rfl ?_
  all_goals simp_all [FV.av, payOk]
set_option maxHeartbeats 1000000 in
theorem sChainOk_ct (c : List Itm) : CtP Tryz.prog 104 [.v c] (.v (chainOk c)) := by
  refine Ct.intro Tryz.func104 rfl rfl ?_
  refine awp_bigL 0 rfl (fun hB => ?_)
  all_goals refine aS (aR ?_)
  all_goals refine oC (oA rfl (Conv.of rfl) rfl) ?_
  all_goals refine oN ?_
  all_goals refine aS (aS (aR ?_))
  all_goals refine oC (oA rfl (Conv.of rfl) rfl) ?_
  all_goals refine oN ?_
  refine aB ?_
  refine awp_loop' (fun n s => ∃ (k : Nat), ∃ (hn : n + k = c.length), ∃ (hall : ∀ (j : Nat) (x : Itm), j < k → c[j]? = some x → itemOk c j x = true), s = mkSt 47 [(0, .v c), (3, .v (k : Int))] []) (c.length) ⟨0, by omega, fun j x h => by omega, rfl⟩ (Le.mk rfl (tle rfl (rfl) rfl (tle rfl (rfl) rfl tln)) oln noS) ?_
  rintro n s ⟨k, hn, hall, rfl⟩
  all_goals refine aS (aS (aR ?_))
  all_goals refine oC (oM rfl (Conv.of rfl) rfl) ?_
  all_goals refine oC (oM rfl (Conv.of rfl) rfl) ?_
  all_goals refine oC (oE sl27 rfl rfl) ?_
  all_goals refine oC (oLt rfl rfl rfl) ?_
  all_goals refine oN ?_
  refine aC rfl (fun h => ?_) (fun h => ?_)
  · have hlt : k < c.length := by simpa using h
    have hx : c[k]? = some c[k] := List.getElem?_eq_getElem hlt
    refine aW ?_
    refine aS (aB ?_)
    have hprev : decide ((0 : Int) < k) = true → 0 ≤ (k : Int) - 1 ∧ c[((k : Int) - 1).toNat]? = some (c[k - 1]'(by omega)) := by
      intro h0
      have h1 : 0 < k := by simpa using h0
      have e : ((k : Int) - 1).toNat = k - 1 := by omega
      exact ⟨by omega, by rw [e]; exact List.getElem?_eq_getElem (by omega)⟩
    refine aST (s' := mkSt 47 [(0, .v c), (3, .v (k : Int)), (43, .v (!itemOk c k c[k]))] []) ?_ ?_
    · all_goals refine dS ?_
      all_goals refine dC (oM rfl (Conv.of rfl) rfl) ?_
      all_goals refine dC (oM rfl (Conv.of rfl) rfl) ?_
      all_goals refine dC (op_ix sl27 rfl rfl rfl (by omega) hx) ?_
      all_goals refine dC (oFR f143_0 rfl rfl) ?_
      all_goals refine dC (oDR ty3 rfl rfl) ?_
      all_goals refine dC (oL fb50 (.cons rfl (Conv.of rfl) (.cons rfl (Conv.of rfl) (.cons rfl (Conv.of rfl) (.nil _)))) (l6In_ct _ _ _) (aK rfl rfl (aK rfl rfl (aK rfl rfl aK0))) rfl rfl) ?_
      all_goals refine dC (op_not rfl rfl) ?_
      all_goals refine dC (oM rfl (Conv.of rfl) rfl) ?_
      all_goals refine dr_split (t := 17) rfl (fun h => ?_) (fun h => ?_)
      all_goals first | refine dC (gF rfl rfl rfl rfl rfl) ?_ | refine dC (gN rfl rfl rfl (oM rfl (Conv.of rfl) rfl)) ?_
      all_goals first | refine dC (gF rfl rfl rfl rfl rfl) ?_ | refine dC (gN rfl rfl rfl (oM rfl (Conv.of rfl) rfl)) ?_
      all_goals first | refine dC (gF rfl rfl rfl rfl rfl) ?_ | refine dC (gN rfl rfl rfl (op_ix sl27 rfl rfl rfl (by omega) hx)) ?_
      all_goals first | refine dC (gF rfl rfl rfl rfl rfl) ?_ | refine dC (gN rfl rfl rfl (oFR f143_1 rfl rfl)) ?_
      all_goals first | refine dC (gF rfl rfl rfl rfl rfl) ?_ | refine dC (gN rfl rfl rfl (oDR ty75 rfl rfl)) ?_
      all_goals first | refine dC (gF rfl rfl rfl rfl rfl) ?_ | refine dC (gN rfl rfl rfl (oL fb132 (.cons rfl (Conv.of rfl) (.nil _)) (sPayOk_ct _) (aK rfl rfl aK0) rfl rfl)) ?_
      all_goals first | refine dC (gF rfl rfl rfl rfl rfl) ?_ | refine dC (gN rfl rfl rfl (op_not rfl rfl)) ?_
      all_goals refine dC (oQ rfl rfl rfl rfl) ?_
      all_goals refine dC (oM rfl (Conv.of rfl) rfl) ?_
      all_goals first | refine dr_lit (t := 26) (b := true) rfl ?_ | refine dr_split (t := 26) rfl (fun h => ?_) (fun h => ?_)
      all_goals first | refine dC (gF rfl rfl rfl rfl rfl) ?_ | refine dC (gN rfl rfl rfl (oM rfl (Conv.of rfl) rfl)) ?_
      all_goals first | refine dC (gF rfl rfl rfl rfl rfl) ?_ | refine dC (gN rfl rfl rfl (op_gtr rfl rfl rfl)) ?_
      all_goals first | refine dC (gF rfl rfl rfl rfl rfl) ?_ | refine dC (gN rfl rfl rfl (oM rfl (Conv.of rfl) rfl)) ?_
      all_goals first | refine dr_ulit (t := 29) rfl ?_ | refine dr_split (t := 29) rfl (fun h => ?_) (fun h => ?_)
      all_goals first | refine dC (gF rfl rfl rfl rfl rfl) ?_ | refine dC (g_und rfl rfl rfl) ?_ | refine dC (gN rfl rfl rfl (oM rfl (Conv.of rfl) rfl)) ?_
      all_goals first | refine dC (gF rfl rfl rfl rfl rfl) ?_ | refine dC (g_und rfl rfl rfl) ?_ | refine dC (gN rfl rfl rfl (oM rfl (Conv.of rfl) rfl)) ?_
      all_goals first | refine dC (gF rfl rfl rfl rfl rfl) ?_ | refine dC (g_und rfl rfl rfl) ?_ | refine dC (gN rfl rfl rfl (op_sub rfl rfl rfl (by omega))) ?_
      all_goals first | refine dC (gF rfl rfl rfl rfl rfl) ?_ | refine dC (g_und rfl rfl rfl) ?_ | refine dC (gN rfl rfl rfl (op_ix sl27 rfl rfl rfl (hprev h).1 (hprev h).2)) ?_
      all_goals first | refine dC (gF rfl rfl rfl rfl rfl) ?_ | refine dC (g_und rfl rfl rfl) ?_ | refine dC (gN rfl rfl rfl (oFR f143_0 rfl rfl)) ?_
      all_goals first | refine dC (gF rfl rfl rfl rfl rfl) ?_ | refine dC (g_und rfl rfl rfl) ?_ | refine dC (gN rfl rfl rfl (oDR ty3 rfl rfl)) ?_
      all_goals first | refine dC (gF rfl rfl rfl rfl rfl) ?_ | refine dC (g_und rfl rfl rfl) ?_ | refine dC (gN rfl rfl rfl (oM rfl (Conv.of rfl) rfl)) ?_
      all_goals first | refine dC (gF rfl rfl rfl rfl rfl) ?_ | refine dC (g_und rfl rfl rfl) ?_ | refine dC (gN rfl rfl rfl (oM rfl (Conv.of rfl) rfl)) ?_
      all_goals first | refine dC (gF rfl rfl rfl rfl rfl) ?_ | refine dC (g_und rfl rfl rfl) ?_ | refine dC (gN rfl rfl rfl (op_ix sl27 rfl rfl rfl (by omega) hx)) ?_
      all_goals first | refine dC (gF rfl rfl rfl rfl rfl) ?_ | refine dC (g_und rfl rfl rfl) ?_ | refine dC (gN rfl rfl rfl (oFR f143_0 rfl rfl)) ?_
      all_goals first | refine dC (gF rfl rfl rfl rfl rfl) ?_ | refine dC (g_und rfl rfl rfl) ?_ | refine dC (gN rfl rfl rfl (oDR ty3 rfl rfl)) ?_
      all_goals first | refine dC (gF rfl rfl rfl rfl rfl) ?_ | refine dC (g_und rfl rfl rfl) ?_ | refine dC (gN rfl rfl rfl (op_geq rfl rfl rfl)) ?_
      all_goals first | refine dC (gF rfl rfl rfl rfl rfl) ?_ | refine dC (gN rfl rfl rfl (oQ rfl rfl rfl rfl)) ?_
      all_goals refine dC (oQ rfl rfl rfl rfl) ?_
      all_goals refine dr_nil mixed rfl ?_
      all_goals exact Le.mk rfl (tle rfl (rfl) rfl (tle rfl (rfl) rfl (tle rfl (by (clear hall; simp_all [itemOk_nat, List.getElem?_eq_getElem (show k - 1 < c.length by omega)])) rfl tln))) oln noS
    refine aC rfl (fun h => ?_) (fun h => ?_)
    · all_goals refine aS (aR ?_)
      all_goals refine oC (oA rfl (Conv.of rfl) rfl) ?_
      all_goals refine oN ?_
      refine aT ?_
      repeat first | refine rS ?_ | refine rB ?_
      refine finP (.v rfl (Conv.of rfl)) rfl ?_
      show AV.v false = _
      rw [chainOk_bad hx (not_t h)]
    · refine aW ?_
      all_goals refine aR ?_
      all_goals refine oC (oM rfl (Conv.of rfl) rfl) ?_
      all_goals refine oC (oP rfl rfl rfl (by omega)) ?_
      all_goals refine oC (oA rfl (Conv.of rfl) rfl) ?_
      all_goals refine oN ?_
      repeat first | refine nS ?_ | refine nB ?_
      exact ⟨n - 1, _, by omega, ⟨k + 1, by omega, fun j x hj hjx => chainOk_more hx hall (not_f h) hj hjx, rfl⟩, Le.mk rfl (tle rfl (rfl) rfl (tle rfl (rfl) rfl tln)) oln noS⟩
  · refine aE ?_
    repeat refine ex_seq ?_
    refine eB ?_
    all_goals refine aS (aR ?_)
    all_goals refine oC (oM rfl (Conv.of rfl) rfl) ?_
    all_goals refine oC (oE sl27 rfl rfl) ?_
    all_goals refine oC (op_leq rfl rfl rfl) ?_
    all_goals refine oC (oA rfl (Conv.of rfl) rfl) ?_
    all_goals refine oN ?_
    refine aT ?_
    repeat first | refine rS ?_ | refine rB ?_
    refine finP (.v rfl (Conv.of rfl)) rfl ?_
    show AV.v _ = _
    rw [chainOk_good (k := k) (by simpa using h) hall]
theorem l3Leader_ct (n : Int) (hn : -1000 ≤ n ∧ n ≤ 1000000) : CtP Tryz.prog 80 [.v n] (.v (leadS n)) := by
  have ht1 := Int.tmod_lt_of_pos (n - 1) (show (0 : Int) < 4 by omega)
  have ht2 : -4 < (n - 1).tmod 4 := Int.lt_tmod_of_pos (n - 1) (show (0 : Int) < 4 by omega)
  refine Ct.intro Tryz.func80 rfl rfl ?_
  refine aS (aR ?_)
  refine oC (oA rfl (Conv.of rfl) rfl) ?_
  refine oN ?_
  refine aS (aR ?_)
  refine oC (oM rfl (Conv.of rfl) rfl) ?_
  refine oC (op_sub rfl rfl rfl (by omega)) ?_
  refine oC (op_rem rfl rfl rfl (by decide)) ?_
  refine oC (oP rfl rfl rfl (by omega)) ?_
  refine oC (oA rfl (Conv.of rfl) rfl) ?_
  refine oN ?_
  refine aT ?_
  repeat first | refine rS ?_ | refine rB ?_
  exact finP (.v rfl (Conv.of rfl)) rfl rfl
theorem l1In_ct (a b : List Itm) : CtP Tryz.prog 166 [.v a, .v b] (.v (inS a b)) := by
  refine Ct.intro Tryz.func166 rfl rfl ?_
  refine awp_bigL 0 rfl (fun hB => ?_)
  refine aS (aR ?_)
  refine oC (oA rfl (Conv.of rfl) rfl) ?_
  refine oN ?_
  refine aS (aS (aR ?_))
  refine oC (oM rfl (Conv.of rfl) rfl) ?_
  refine oC (oE sl27 rfl rfl) ?_
  refine oC (oM rfl (Conv.of rfl) rfl) ?_
  refine oC (oE sl27 rfl rfl) ?_
  refine oC (op_gtr rfl rfl rfl) ?_
  refine oN ?_
  refine aC rfl (fun h => ?_) (fun h => ?_)
  · refine aS (aR ?_)
    refine oC (oA rfl (Conv.of rfl) rfl) ?_
    refine oN ?_
    refine aT ?_
    repeat first | refine rS ?_ | refine rB ?_
    refine finP (.v rfl (Conv.of rfl)) rfl ?_
    have : ¬ a.length ≤ b.length := by simp at h; omega
    simp [FV.av, inS, this]
  · have hlen : a.length ≤ b.length := by simp at h; omega
    refine aW ?_
    refine aS (aS (aR ?_))
    refine oC (oA rfl (Conv.of rfl) rfl) ?_
    refine oN ?_
    refine aB ?_
    refine awp_loop' (fun n s => ∃ (k : Nat), ∃ (hn : n + k = a.length), ∃ (hall : decide (a.take k = b.take k) = true), s = mkSt 26 [(0, .v a), (1, .v b), (5, .v (k : Int))] []) (a.length) ⟨0, by omega, rfl, rfl⟩ (Le.mk rfl (tle rfl (rfl) rfl (tle rfl (rfl) rfl (tle rfl (rfl) rfl tln))) oln noS) ?_
    rintro n s ⟨k, hn, hall, rfl⟩
    refine aS (aS (aR ?_))
    refine oC (oM rfl (Conv.of rfl) rfl) ?_
    refine oC (oM rfl (Conv.of rfl) rfl) ?_
    refine oC (oE sl27 rfl rfl) ?_
    refine oC (oLt rfl rfl rfl) ?_
    refine oN ?_
    refine aC rfl (fun h => ?_) (fun h => ?_)
    · have hlt : k < a.length := by simpa using h
      have hx : a[k]? = some a[k] := List.getElem?_eq_getElem hlt
      have hy : b[k]? = some (b[k]'(by omega)) := List.getElem?_eq_getElem (by omega)
      have hs := take_eq_at hx hy
      refine aW ?_
      refine aS (aB ?_)
      refine aS (dS ?_)
      refine dC (oM rfl (Conv.of rfl) rfl) ?_
      refine dC (oM rfl (Conv.of rfl) rfl) ?_
      refine dC (op_ix sl27 rfl rfl rfl (by omega) hx) ?_
      refine dC (oDR ty143 rfl rfl) ?_
      refine dC (oM rfl (Conv.of rfl) rfl) ?_
      refine dC (oM rfl (Conv.of rfl) rfl) ?_
      refine dC (op_ix sl27 rfl rfl rfl (by omega) hy) ?_
      refine dC (oDR ty143 rfl rfl) ?_
      refine dC (op_nea weq143 rfl rfl rfl) ?_
      refine dr_nil mixed rfl ?_
      refine aC rfl (fun h => ?_) (fun h => ?_)
      · refine aS (aR ?_)
        refine oC (oA rfl (Conv.of rfl) rfl) ?_
        refine oN ?_
        refine aT ?_
        repeat first | refine rS ?_ | refine rB ?_
        refine finP (.v rfl (Conv.of rfl)) rfl ?_
        have h' : ¬ a[k] = b[k] := by simpa using h
        have : ¬ a = b.take a.length := by
          intro e
          have e2 : a[k]? = (b.take a.length)[k]? := congrArg (fun l : List Itm => l[k]?) e
          rw [List.getElem?_take, if_pos hlt, hy, hx] at e2
          exact h' (Option.some.inj e2)
        simp [FV.av, inS, this]
      · refine aW ?_
        have h' : decide (a[k] = b[k]) = true := by simpa using h
        refine aR ?_
        refine oC (oM rfl (Conv.of rfl) rfl) ?_
        refine oC (oP rfl rfl rfl (by omega)) ?_
        refine oC (oA rfl (Conv.of rfl) rfl) ?_
        refine oN ?_
        repeat first | refine nS ?_ | refine nB ?_
        exact ⟨n - 1, _, by omega, ⟨k + 1, by omega, by rw [hs, hall, h']; rfl, rfl⟩, Le.mk rfl (tle rfl (rfl) rfl (tle rfl (rfl) rfl (tle rfl (rfl) rfl tln))) oln noS⟩
    · refine aE ?_
      repeat refine ex_seq ?_
      refine eB ?_
      have hk : k = a.length := by simp at h; omega
      subst hk
      refine aS (aR ?_)
      refine oC (oA rfl (Conv.of rfl) rfl) ?_
      refine oN ?_
      refine aT ?_
      repeat first | refine rS ?_ | refine rB ?_
      refine finP (.v rfl (Conv.of rfl)) rfl ?_
      rw [List.take_length] at hall
      have : a = b.take a.length := by simpa using hall
      simp [FV.av, inS, hlen, ← this]
theorem inS_same {a b : List Itm} (h : a.length = b.length) : inS a b = decide (a = b) := by
  unfold inS
  rw [show b.take a.length = b by rw [h, List.take_length]]
  simp [h]
theorem l3Same_ct (a b : List Itm) : CtP Tryz.prog 142 [.v a, .v b] (.v (decide (a = b))) := by
  refine Ct.intro Tryz.func142 rfl rfl ?_
  all_goals refine aS (aR ?_)
  all_goals refine oC (oA rfl (Conv.of rfl) rfl) ?_
  all_goals refine oN ?_
  all_goals refine aS (aR ?_)
  all_goals refine oC (oM rfl (Conv.of rfl) rfl) ?_
  all_goals refine oC (oE sl27 rfl rfl) ?_
  all_goals refine oC (oM rfl (Conv.of rfl) rfl) ?_
  all_goals refine oC (oE sl27 rfl rfl) ?_
  all_goals refine oC (op_eql rfl rfl rfl) ?_
  all_goals refine oC (oM rfl (Conv.of rfl) rfl) ?_
  all_goals refine g_split (t := 10) rfl (fun h => ?_) (fun h => ?_)
  all_goals first | refine oC (gF rfl rfl rfl rfl rfl) ?_ | refine oC (gN rfl rfl rfl (oM rfl (Conv.of rfl) rfl)) ?_
  all_goals first | refine oC (gF rfl rfl rfl rfl rfl) ?_ | refine oC (gN rfl rfl rfl (oM rfl (Conv.of rfl) rfl)) ?_
  all_goals first | refine oC (gF rfl rfl rfl rfl rfl) ?_ | refine oC (gN rfl rfl rfl (oL fb166 (.cons rfl (Conv.of rfl) (.cons rfl (Conv.of rfl) (.nil _))) (l1In_ct _ _) (aK rfl rfl (aK rfl rfl aK0)) rfl rfl)) ?_
  all_goals refine oC (oQ rfl rfl rfl rfl) ?_
  all_goals refine oC (oA rfl (Conv.of rfl) rfl) ?_
  all_goals refine oN ?_
  all_goals refine aT ?_
  all_goals refine finP (.v rfl (Conv.of rfl)) rfl ?_
  · have hl : a.length = b.length := by simp at h; omega
    simp only [FV.av]; congr 1
    exact inS_same hl
  · have hl : ¬ a.length = b.length := by simp at h; omega
    have : ¬ a = b := fun e => hl (by rw [e])
    simp [FV.av, this]
theorem l1Copy_ct (c : List Itm) (hc : c.length ≤ 1000000) : CtP Tryz.prog 107 [.v c] (.v (OList.mk c true)) := by
  refine Ct.intro Tryz.func107 rfl rfl ?_
  refine aS (aR ?_)
  refine oC (oA rfl (Conv.of rfl) rfl) ?_
  refine oN ?_
  refine aS (aR ?_)
  refine oC (op_bsl sl27 z143 (.nil _) rfl (by decide) rfl) ?_
  refine oC (oM rfl (Conv.of rfl) rfl) ?_
  refine oC (op_app sl27 z143 ul27 rfl rfl rfl (by (simp; omega)) (by (simp; omega)) rfl rfl) ?_
  refine oC (op_asl rfl rfl rfl rfl) ?_
  refine oN ?_
  refine aT ?_
  repeat first | refine rS ?_ | refine rB ?_
  exact finM rfl rfl (by simp)
theorem l3VoteCopy_ct (v : Vote) (hv : v.chain.length ≤ 1000000) : CtP Tryz.prog 160 [.v v] (.v v) := by
  refine Ct.intro Tryz.func160 rfl rfl ?_
  refine aS (aR ?_)
  refine oC (op_box (o := 0) ty38 rfl (Conv.of rfl) rfl rfl) ?_
  refine oC (oX (o := 1) z38 rfl rfl) ?_
  refine oN ?_
  refine aS (aR ?_)
  refine oC (oF f38_1 rfl rfl) ?_
  refine oC (oD ty27 rfl rfl rfl) ?_
  refine oC (oL fb107 (.cons rfl (Conv.of rfl) (.nil _)) (l1Copy_ct _ hv) (aK rfl rfl aK0) rfl rfl) ?_
  refine oC (oF f38_1 rfl rfl) ?_
  refine oC (op_st ty27 rfl rfl (Conv.ol) rfl) ?_
  refine oN ?_
  refine aS (aR ?_)
  refine oC (oD ty38 rfl rfl rfl) ?_
  refine oC (op_st ty38 rfl rfl (Conv.of rfl) rfl) ?_
  refine oN ?_
  refine aT ?_
  repeat first | refine rS ?_ | refine rB ?_
  exact finP (.rc ty38 rfl rfl) rfl rfl
theorem l3Vote_ct (v : Vote) : CtP Tryz.prog 108 [.v v] (.v (voteOk v)) := by
  refine Ct.intro Tryz.func108 rfl rfl ?_
  all_goals refine aS (aR ?_)
  all_goals refine oC (op_box (o := 0) ty38 rfl (Conv.of rfl) rfl rfl) ?_
  all_goals refine oC (oA rfl (Conv.of rfl) rfl) ?_
  all_goals refine oN ?_
  all_goals refine aS (aR ?_)
  all_goals refine oC (oF f38_0 rfl rfl) ?_
  all_goals refine oC (oD ty3 rfl rfl rfl) ?_
  all_goals refine oC (oL fb50 (.cons rfl (Conv.of rfl) (.cons rfl (Conv.of rfl) (.cons rfl (Conv.of rfl) (.nil _)))) (l6In_ct _ _ _) (aK rfl rfl (aK rfl rfl (aK rfl rfl aK0))) rfl rfl) ?_
  all_goals refine oC (oM rfl (Conv.of rfl) rfl) ?_
  all_goals refine g_split (t := 6) rfl (fun h => ?_) (fun h => ?_)
  all_goals first | refine oC (gF rfl rfl rfl rfl rfl) ?_ | refine oC (gN rfl rfl rfl (oF f38_1 rfl rfl)) ?_
  all_goals first | refine oC (gF rfl rfl rfl rfl rfl) ?_ | refine oC (gN rfl rfl rfl (oD ty27 rfl rfl rfl)) ?_
  all_goals first | refine oC (gF rfl rfl rfl rfl rfl) ?_ | refine oC (gN rfl rfl rfl (oL fb104 (.cons rfl (Conv.of rfl) (.nil _)) (sChainOk_ct _) (aK rfl rfl aK0) rfl rfl)) ?_
  all_goals refine oC (oQ rfl rfl rfl rfl) ?_
  all_goals refine oC (oM rfl (Conv.of rfl) rfl) ?_
  all_goals first | refine g_lit (t := 11) (b := false) rfl ?_ | refine g_split (t := 11) rfl (fun h => ?_) (fun h => ?_)
  all_goals first | refine oC (gF rfl rfl rfl rfl rfl) ?_ | refine oC (gN rfl rfl rfl (oF f38_1 rfl rfl)) ?_
  all_goals first | refine oC (gF rfl rfl rfl rfl rfl) ?_ | refine oC (gN rfl rfl rfl (oD ty27 rfl rfl rfl)) ?_
  all_goals first | refine oC (gF rfl rfl rfl rfl rfl) ?_ | refine oC (gN rfl rfl rfl (oE sl27 rfl rfl)) ?_
  all_goals first | refine oC (gF rfl rfl rfl rfl rfl) ?_ | refine oC (gN rfl rfl rfl (op_gtr rfl rfl rfl)) ?_
  all_goals refine oC (oQ rfl rfl rfl rfl) ?_
  all_goals refine oC (oA rfl (Conv.of rfl) rfl) ?_
  all_goals refine oN ?_
  all_goals refine aT ?_
  all_goals refine finP (.v rfl (Conv.of rfl)) rfl ?_
  all_goals (simp_all [FV.av, voteOk])
theorem l3Has_ct (l : List Vote) (v : Vote) : CtP Tryz.prog 106 [.v l, .v v] (.v (decide (v ∈ l))) := by
  refine Ct.intro Tryz.func106 rfl rfl ?_
  refine awp_bigL 0 rfl (fun hB => ?_)
  all_goals refine aS (aR ?_)
  all_goals refine oC (op_box (o := 0) ty38 rfl (Conv.of rfl) rfl rfl) ?_
  all_goals refine oC (oA rfl (Conv.of rfl) rfl) ?_
  all_goals refine oN ?_
  all_goals refine aS (aS (aR ?_))
  all_goals refine oC (oA rfl (Conv.of rfl) rfl) ?_
  all_goals refine oN ?_
  refine aB ?_
  refine awp_loop' (fun n s => ∃ (k : Nat), ∃ (hn : n + k = l.length), ∃ (hall : decide (v ∈ l) = decide (v ∈ l.drop k)), s = mkSt 30 [(0, .v l), (3, .box 0 (IsLens.whole Vote)), (5, .v (k : Int))] [(0, .cell v)]) (l.length) ⟨0, by omega, rfl, rfl⟩ (Le.mk rfl (tle rfl (rfl) rfl (tlb rfl rfl rfl (tle rfl (rfl) rfl tln))) (olk rfl (by exact bC) oln) noS) ?_
  rintro n s ⟨k, hn, hall, rfl⟩
  all_goals refine aS (aS (aR ?_))
  all_goals refine oC (oM rfl (Conv.of rfl) rfl) ?_
  all_goals refine oC (oM rfl (Conv.of rfl) rfl) ?_
  all_goals refine oC (oE sl24 rfl rfl) ?_
  all_goals refine oC (oLt rfl rfl rfl) ?_
  all_goals refine oN ?_
  refine aC rfl (fun h => ?_) (fun h => ?_)
  · have hlt : k < l.length := by simpa using h
    have hx : l[k]? = some l[k] := List.getElem?_eq_getElem hlt
    have hs := mem_take_at (v := v) hx
    refine aW ?_
    refine aS (aB ?_)
    refine aST (s' := mkSt 30 [(0, .v l), (3, .box 0 (IsLens.whole Vote)), (5, .v (k : Int)), (29, .v (decide (l[k] = v)))] [(0, .cell v)]) ?_ ?_
    · all_goals refine dS ?_
      all_goals refine dC (oM rfl (Conv.of rfl) rfl) ?_
      all_goals refine dC (oM rfl (Conv.of rfl) rfl) ?_
      all_goals refine dC (op_ix sl24 rfl rfl rfl (by omega) hx) ?_
      all_goals refine dC (oFR f38_0 rfl rfl) ?_
      all_goals refine dC (oDR ty3 rfl rfl) ?_
      all_goals refine dC (oF f38_0 rfl rfl) ?_
      all_goals refine dC (oD ty3 rfl rfl rfl) ?_
      all_goals refine dC (op_eql rfl rfl rfl) ?_
      all_goals refine dC (oM rfl (Conv.of rfl) rfl) ?_
      all_goals refine dr_split (t := 20) rfl (fun h => ?_) (fun h => ?_)
      all_goals first | refine dC (gF rfl rfl rfl rfl rfl) ?_ | refine dC (gN rfl rfl rfl (oM rfl (Conv.of rfl) rfl)) ?_
      all_goals first | refine dC (gF rfl rfl rfl rfl rfl) ?_ | refine dC (gN rfl rfl rfl (oM rfl (Conv.of rfl) rfl)) ?_
      all_goals first | refine dC (gF rfl rfl rfl rfl rfl) ?_ | refine dC (gN rfl rfl rfl (op_ix sl24 rfl rfl rfl (by omega) hx)) ?_
      all_goals first | refine dC (gF rfl rfl rfl rfl rfl) ?_ | refine dC (gN rfl rfl rfl (oFR f38_1 rfl rfl)) ?_
      all_goals first | refine dC (gF rfl rfl rfl rfl rfl) ?_ | refine dC (gN rfl rfl rfl (oDR ty27 rfl rfl)) ?_
      all_goals first | refine dC (gF rfl rfl rfl rfl rfl) ?_ | refine dC (gN rfl rfl rfl (oF f38_1 rfl rfl)) ?_
      all_goals first | refine dC (gF rfl rfl rfl rfl rfl) ?_ | refine dC (gN rfl rfl rfl (oD ty27 rfl rfl rfl)) ?_
      all_goals first | refine dC (gF rfl rfl rfl rfl rfl) ?_ | refine dC (gN rfl rfl rfl (oL fb142 (.cons rfl (Conv.of rfl) (.cons rfl (Conv.of rfl) (.nil _))) (l3Same_ct _ _) (aK rfl rfl (aK rfl rfl aK0)) rfl rfl)) ?_
      all_goals refine dC (oQ rfl rfl rfl rfl) ?_
      all_goals refine dr_nil mixed rfl ?_
      all_goals exact Le.mk rfl (tle rfl (rfl) rfl (tlb rfl rfl rfl (tle rfl (rfl) rfl (tle rfl (by (show AV.v _ = AV.v _; congr 1; clear hall hs; generalize l[k] = u at *; obtain ⟨u1, u2⟩ := u; obtain ⟨v1, v2⟩ := v; simp_all)) rfl tln)))) (olk rfl (by exact bC) oln) noS
    refine aC rfl (fun h => ?_) (fun h => ?_)
    · all_goals refine aS (aR ?_)
      all_goals refine oC (oA rfl (Conv.of rfl) rfl) ?_
      all_goals refine oN ?_
      refine aT ?_
      repeat first | refine rS ?_ | refine rB ?_
      refine finP (.v rfl (Conv.of rfl)) rfl ?_
      show AV.v true = _
      rw [hall, hs, h, Bool.true_or]
    · refine aW ?_
      all_goals refine aR ?_
      all_goals refine oC (oM rfl (Conv.of rfl) rfl) ?_
      all_goals refine oC (oP rfl rfl rfl (by omega)) ?_
      all_goals refine oC (oA rfl (Conv.of rfl) rfl) ?_
      all_goals refine oN ?_
      repeat first | refine nS ?_ | refine nB ?_
      exact ⟨n - 1, _, by omega, ⟨k + 1, by omega, by rw [hall, hs, h, Bool.false_or], rfl⟩, Le.mk rfl (tle rfl (rfl) rfl (tlb rfl rfl rfl (tle rfl (rfl) rfl tln))) (olk rfl (by exact bC) oln) noS⟩
  · refine aE ?_
    repeat refine ex_seq ?_
    refine eB ?_
    have hk : l.length ≤ k := by simpa using h
    all_goals refine aS (aR ?_)
    all_goals refine oC (oA rfl (Conv.of rfl) rfl) ?_
    all_goals refine oN ?_
    refine aT ?_
    repeat first | refine rS ?_ | refine rB ?_
    refine finP (.v rfl (Conv.of rfl)) rfl ?_
    show AV.v false = _
    rw [hall, drop_end hk]; simp
theorem l3Many_ct (l : List Vote) (c : List Itm) : CtP Tryz.prog 167 [.v l, .v c] (.v (many l c)) := by
  refine Ct.intro Tryz.func167 rfl rfl ?_
  refine awp_bigL 0 rfl (fun hB => ?_)
  refine aS (aR ?_)
  refine oC (oA rfl (Conv.of rfl) rfl) ?_
  refine oN ?_
  refine aS (aR ?_)
  refine oC (oA rfl (Conv.of rfl) rfl) ?_
  refine oN ?_
  refine aS (aS (aR ?_))
  refine oC (oA rfl (Conv.of rfl) rfl) ?_
  refine oN ?_
  refine aB ?_
  refine awp_loop' (fun n s => ∃ (k : Nat), ∃ (m : Int), ∃ (hn : n + k = l.length), ∃ (hm : 0 ≤ m ∧ m ≤ k), ∃ (hall : many l c = manyFrom c (l.drop k) m), s = mkSt 23 [(0, .v l), (1, .v c), (5, .v m), (6, .v (k : Int))] []) (l.length) ⟨0, (0 : Int), by omega, by omega, rfl, rfl⟩ (Le.mk rfl (tle rfl (rfl) rfl (tle rfl (rfl) rfl (tle rfl (rfl) rfl (tle rfl (rfl) rfl tln)))) oln noS) ?_
  rintro n s ⟨k, m, hn, hm, hall, rfl⟩
  refine aS (aS (aR ?_))
  refine oC (oM rfl (Conv.of rfl) rfl) ?_
  refine oC (oM rfl (Conv.of rfl) rfl) ?_
  refine oC (oE sl24 rfl rfl) ?_
  refine oC (oLt rfl rfl rfl) ?_
  refine oN ?_
  refine aC rfl (fun h => ?_) (fun h => ?_)
  · have hlt : k < l.length := by simpa using h
    have hx : l[k]? = some l[k] := List.getElem?_eq_getElem hlt
    have hs := many_drop (c := c) hx m
    refine aW ?_
    refine aS (aB ?_)
    refine aS (aR ?_)
    refine oC (oM rfl (Conv.of rfl) rfl) ?_
    refine oC (oM rfl (Conv.of rfl) rfl) ?_
    refine oC (op_ix sl24 rfl rfl rfl (by omega) hx) ?_
    refine oC (oFR f38_1 rfl rfl) ?_
    refine oC (oDR ty27 rfl rfl) ?_
    refine oC (oM rfl (Conv.of rfl) rfl) ?_
    refine oC (oL fb142 (.cons rfl (Conv.of rfl) (.cons rfl (Conv.of rfl) (.nil _))) (l3Same_ct _ _) (aK rfl rfl (aK rfl rfl aK0)) rfl rfl) ?_
    refine oN ?_
    refine aC rfl (fun h => ?_) (fun h => ?_)
    · refine aR ?_
      refine oC (oM rfl (Conv.of rfl) rfl) ?_
      refine oC (oP rfl rfl rfl (by omega)) ?_
      refine oC (oA rfl (Conv.of rfl) rfl) ?_
      refine oN ?_
      refine aR ?_
      refine oC (oM rfl (Conv.of rfl) rfl) ?_
      refine oC (oP rfl rfl rfl (by omega)) ?_
      refine oC (oA rfl (Conv.of rfl) rfl) ?_
      refine oN ?_
      repeat first | refine nS ?_ | refine nB ?_
      exact ⟨n - 1, _, by omega, ⟨k + 1, m + 1, by omega, by omega, by rw [hall, hs, h]; rfl, rfl⟩, Le.mk rfl (tle rfl (rfl) rfl (tle rfl (rfl) rfl (tle rfl (rfl) rfl (tle rfl (rfl) rfl tln)))) oln noS⟩
    · refine aW ?_
      refine aR ?_
      refine oC (oM rfl (Conv.of rfl) rfl) ?_
      refine oC (oP rfl rfl rfl (by omega)) ?_
      refine oC (oA rfl (Conv.of rfl) rfl) ?_
      refine oN ?_
      repeat first | refine nS ?_ | refine nB ?_
      exact ⟨n - 1, _, by omega, ⟨k + 1, m, by omega, by omega, by rw [hall, hs, h]; rfl, rfl⟩, Le.mk rfl (tle rfl (rfl) rfl (tle rfl (rfl) rfl (tle rfl (rfl) rfl (tle rfl (rfl) rfl tln)))) oln noS⟩
  · refine aE ?_
    repeat refine ex_seq ?_
    refine eB ?_
    have hk : l.length ≤ k := by simpa using h
    refine aS (aR ?_)
    refine oC (oM rfl (Conv.of rfl) rfl) ?_
    refine oC (oA rfl (Conv.of rfl) rfl) ?_
    refine oN ?_
    refine aT ?_
    repeat first | refine rS ?_ | refine rB ?_
    refine finP (.v rfl (Conv.of rfl)) rfl ?_
    show AV.v _ = _
    rw [hall, drop_end hk]; rfl
theorem l11Sure_ct (l : List Vote) (c : List Itm) : CtP Tryz.prog 143 [.v l, .v c] (.v (sureS l c)) := by
  refine Ct.intro Tryz.func143 rfl rfl ?_
  refine awp_bigL 1 rfl (fun hB => ?_)
  refine aS (aR ?_)
  refine oC (oA rfl (Conv.of rfl) rfl) ?_
  refine oN ?_
  refine aS (aS (aR ?_))
  refine oC (oA rfl (Conv.of rfl) rfl) ?_
  refine oN ?_
  refine aB ?_
  refine awp_loop' (fun n s => ∃ (k : Nat), ∃ (hn : n + k = c.length), ∃ (hall : sureS l c = sureSFrom l c k n), s = mkSt 18 [(0, .v l), (1, .v c), (5, .v ((k : Int) + 1))] []) (c.length) ⟨0, by omega, rfl, rfl⟩ (Le.mk rfl (tle rfl (rfl) rfl (tle rfl (rfl) rfl (tle rfl (rfl) rfl tln))) oln noS) ?_
  rintro n s ⟨k, hn, hall, rfl⟩
  refine aS (aS (aR ?_))
  refine oC (oM rfl (Conv.of rfl) rfl) ?_
  refine oC (oM rfl (Conv.of rfl) rfl) ?_
  refine oC (oE sl27 rfl rfl) ?_
  refine oC (op_leq rfl rfl rfl) ?_
  refine oN ?_
  refine aC rfl (fun h => ?_) (fun h => ?_)
  · have hlt : k < c.length := by simp at h; omega
    obtain ⟨n', rfl⟩ : ∃ n', n = n' + 1 := ⟨n - 1, by omega⟩
    refine aW ?_
    refine aS (aB ?_)
    refine aS (aR ?_)
    refine oC (oM rfl (Conv.of rfl) rfl) ?_
    refine oC (oM rfl (Conv.of rfl) rfl) ?_
    refine oC (oM rfl (Conv.of rfl) rfl) ?_
    refine oC (op_slh sl27 rfl rfl rfl (by omega)) ?_
    refine oC (oL fb167 (.cons rfl (Conv.of rfl) (.cons rfl (Conv.of rfl) (.nil _))) (l3Many_ct _ _) (aK rfl rfl (aK rfl rfl aK0)) rfl rfl) ?_
    refine oC (oLt rfl rfl rfl) ?_
    refine oN ?_
    refine aC rfl (fun hb => ?_) (fun hb => ?_)
    · refine aS (aR ?_)
      refine oC (oA rfl (Conv.of rfl) rfl) ?_
      refine oN ?_
      refine aT ?_
      repeat first | refine rS ?_ | refine rB ?_
      refine finP (.v rfl (Conv.of rfl)) rfl ?_
      show AV.v false = _
      have hb' : many l (c.take ((k : Int) + 1).toNat) < 3 := by simpa using hb
      rw [hall, sureS_step, decide_eq_false (by rw [show ((k : Int) + 1).toNat = k + 1 by omega] at hb'; omega), Bool.false_and]
    · refine aW ?_
      refine aR ?_
      refine oC (oM rfl (Conv.of rfl) rfl) ?_
      refine oC (oP rfl rfl rfl (by omega)) ?_
      refine oC (oA rfl (Conv.of rfl) rfl) ?_
      refine oN ?_
      have hb' : 3 ≤ many l (c.take ((k : Int) + 1).toNat) := by simpa using hb
      repeat first | refine nS ?_ | refine nB ?_
      exact ⟨n', _, by omega, ⟨k + 1, by omega, by rw [hall, sureS_step, decide_eq_true (by rw [show ((k : Int) + 1).toNat = k + 1 by omega] at hb'; omega), Bool.true_and], rfl⟩, Le.mk rfl (tle rfl (rfl) rfl (tle rfl (rfl) rfl (tle rfl (rfl) rfl tln))) oln noS⟩
  · refine aE ?_
    repeat refine ex_seq ?_
    refine eB ?_
    have hk : n = 0 := by simp at h; omega
    subst hk
    refine aS (aR ?_)
    refine oC (oA rfl (Conv.of rfl) rfl) ?_
    refine oN ?_
    refine aT ?_
    repeat first | refine rS ?_ | refine rB ?_
    refine finP (.v rfl (Conv.of rfl)) rfl ?_
    show AV.v true = _
    rw [hall]; rfl
end Go.Proofs.YtmhmeppocbcmeaaGreat

/- The reference: nodes. -/
set_option linter.unusedVariables false
set_option linter.unusedSimpArgs false
namespace Go.Proofs.YtmhmeppocbcmeaaGreat
open Go Go.Wt
theorem l12Enter_ct (n : Nod) (e : Int) (hn : 0 ≤ n.epoch ∧ n.epoch ≤ 30) : CtP Tryz.prog 131 [.v (sN n), .v e] (.v (sN (enterF n e))) := by
  unfold sN
  refine Ct.intro Tryz.func131 rfl rfl ?_
  refine aS (aR ?_)
  refine oC (op_boxm (o := 0) ty90_NodS rfl rfl rfl rfl) ?_
  refine oC (oX (o := 1) z90_NodS rfl rfl) ?_
  refine oN ?_
  refine aS (aS (aR ?_))
  refine oC (oM rfl (Conv.of rfl) rfl) ?_
  refine oC (oF f90_1_NodS rfl rfl) ?_
  refine oC (oD ty3 rfl rfl rfl) ?_
  refine oC (oP rfl rfl rfl (by ((try simp only [sN]); omega))) ?_
  refine oC (oL fb50 (.cons rfl (Conv.of rfl) (.cons rfl (Conv.of rfl) (.cons rfl (Conv.of rfl) (.nil _)))) (l6In_ct _ _ _) (aK rfl rfl (aK rfl rfl (aK rfl rfl aK0))) rfl rfl) ?_
  refine oN ?_
  refine aC rfl (fun h => ?_) (fun h => ?_)
  · refine aR ?_
    refine oC (oM rfl (Conv.of rfl) rfl) ?_
    refine oC (oF f90_1_NodS rfl rfl) ?_
    refine oC (op_st ty3 rfl rfl (Conv.of rfl) rfl) ?_
    refine oN ?_
    refine aS (aR ?_)
    refine oC (op_ldm ty90_NodS rfl rfl rfl) ?_
    refine oC (op_stm ty90_NodS rfl rfl rfl) ?_
    refine oN ?_
    refine aT ?_
    repeat first | refine rS ?_ | refine rB ?_
    refine ⟨_, _, res1C (ol := []) ty90_NodS rfl rfl (fun o ho => absurd (show o ∈ ([] : List Nat) from ho) (by simp)) oln noS, ?_, rfl⟩
    have h' : within e (n.epoch + 1) 30 = true := h
    show AV.v _ = AV.v _
    simp [enterF, h']
  · refine aW ?_
    refine aS (aR ?_)
    refine oC (op_ldm ty90_NodS rfl rfl rfl) ?_
    refine oC (op_stm ty90_NodS rfl rfl rfl) ?_
    refine oN ?_
    refine aT ?_
    repeat first | refine rS ?_ | refine rB ?_
    refine ⟨_, _, res1C (ol := []) ty90_NodS rfl rfl (fun o ho => absurd (show o ∈ ([] : List Nat) from ho) (by simp)) oln noS, ?_, rfl⟩
    have h' : within e (n.epoch + 1) 30 = false := h
    show AV.v _ = AV.v _
    simp [enterF, h']
theorem l3Add_ct (l : List Vote) (v : Vote) (hl : l.length ≤ 1000000) (hv : v.chain.length ≤ 1000000) : CtP Tryz.prog 146 [.v (OList.mk l true), .v v] (.tup [.v (OList.mk (if decide (v ∈ l) then l else l ++ [v]) true), .v (!decide (v ∈ l))]) := by
  refine Ct.intro Tryz.func146 rfl rfl ?_
  refine aS (aR ?_)
  refine oC (op_box (o := 0) ty38 rfl (Conv.of rfl) rfl rfl) ?_
  refine oC (oA rfl (Conv.of rfl) rfl) ?_
  refine oC (oA rfl (Conv.of rfl) rfl) ?_
  refine oN ?_
  refine aS (aS (aR ?_))
  refine oC (oM rfl Conv.ol rfl) ?_
  refine oC (oD ty38 rfl rfl rfl) ?_
  refine oC (oL fb106 (.cons rfl (Conv.of rfl) (.cons rfl (Conv.of rfl) (.nil _))) (l3Has_ct _ _) (aK rfl rfl (aK rfl rfl aK0)) rfl rfl) ?_
  refine oN ?_
  refine aC rfl (fun h => ?_) (fun h => ?_)
  · refine aS (aR ?_)
    refine oC (op_mvl rfl rfl rfl rfl) ?_
    refine oC (op_asl rfl rfl rfl rfl) ?_
    refine oC (oA rfl (Conv.of rfl) rfl) ?_
    refine oN ?_
    refine aT ?_
    repeat first | refine rS ?_ | refine rB ?_
    refine ⟨_, _, rNM (ol := []) (.tmp rfl (.keep (.v rfl (Conv.of rfl)) (.nil _))) rfl (fun o ho => absurd (show o ∈ ([] : List Nat) from ho) (by simp)) oln noS, ?_, rfl⟩
    simp only [h, if_true]
    try rfl
  · refine aW ?_
    refine aS (aR ?_)
    refine oC (op_mvl rfl rfl rfl rfl) ?_
    refine oC (oD ty38 rfl rfl rfl) ?_
    refine oC (oL fb160 (.cons rfl (Conv.of rfl) (.nil _)) (l3VoteCopy_ct _ hv) (aK rfl rfl aK0) rfl rfl) ?_
    refine oC (op_bsl sl24 z38 (.cons rfl (Conv.of rfl) (.nil _)) rfl (by decide) rfl) ?_
    refine oC (op_app sl24 z38 ul24 rfl rfl rfl (by (simp; omega)) (by (simp; omega)) rfl rfl) ?_
    refine oC (op_asl rfl rfl rfl rfl) ?_
    refine oC (oA rfl (Conv.of rfl) rfl) ?_
    refine oN ?_
    refine aT ?_
    repeat first | refine rS ?_ | refine rB ?_
    refine ⟨_, _, rNM (ol := []) (.tmp rfl (.keep (.v rfl (Conv.of rfl)) (.nil _))) rfl (fun o ho => absurd (show o ∈ ([] : List Nat) from ho) (by simp)) oln noS, ?_, rfl⟩
    simp only [h]
    try rfl
theorem l12Vote_ct (n : Nod) (c : List Itm) (hn : Gd n.seen) (hc : c.length ≤ 1000000) : CtP Tryz.prog 162 [.v (sN n), .v c] (.tup [.v (sN (voteF n c).1), .v (voteF n c).2.1, .v (voteF n c).2.2]) := by
  have hl := hn.len
  unfold sN
  refine Ct.intro Tryz.func162 rfl rfl ?_
  refine aS (aR ?_)
  refine oC (op_boxm (o := 0) ty90_NodS rfl rfl rfl rfl) ?_
  refine oC (oX (o := 1) z90_NodS rfl rfl) ?_
  refine oC (oX (o := 2) z38 rfl rfl) ?_
  refine oC (oA rfl (Conv.of rfl) rfl) ?_
  refine oN ?_
  refine aS (dS ?_)
  refine dC (oF f90_0_NodS rfl rfl) ?_
  refine dC (oD ty3 rfl rfl rfl) ?_
  refine dC (oM rfl (Conv.of rfl) rfl) ?_
  refine dC (oL fb107 (.cons rfl (Conv.of rfl) (.nil _)) (l1Copy_ct _ hc) (aK rfl rfl aK0) rfl rfl) ?_
  refine dC (op_build (.cons f38_0 rfl (Conv.of rfl) (.cons f38_1 rfl (Conv.ol) (.nil _))) z38 rfl pl38 rfl) ?_
  refine dC (oX (o := 3) z38 rfl rfl) ?_
  refine dC (op_st ty38 rfl rfl (Conv.of rfl) rfl) ?_
  refine dr_nil mixed rfl ?_
  refine aS (aS (aR ?_))
  refine oC (oF f90_3_NodS rfl rfl) ?_
  refine oC (op_ldl ty24_OListVote rfl rfl rfl) ?_
  refine oC (oE sl24 rfl rfl) ?_
  refine oC (op_geq rfl rfl rfl) ?_
  refine oN ?_
  refine aC rfl (fun h => ?_) (fun h => ?_)
  · have h' : decide (80 ≤ n.seen.length) = true := by simp at h ⊢; omega
    refine aS (aR ?_)
    refine oC (op_ldm ty90_NodS rfl rfl rfl) ?_
    refine oC (op_build (.nil _) z38 rfl pl38 rfl) ?_
    refine oC (op_stm ty90_NodS rfl rfl rfl) ?_
    refine oC (op_st ty38 rfl rfl (Conv.of rfl) rfl) ?_
    refine oC (oA rfl (Conv.of rfl) rfl) ?_
    refine oN ?_
    refine aT ?_
    repeat first | refine rS ?_ | refine rB ?_
    refine ⟨_, _, rNM (ol := []) (.cell ty90_NodS rfl rfl (.keep (.rc ty38 rfl rfl) (.keep (.v rfl (Conv.of rfl)) (.nil _)))) rfl (fun o ho => absurd (show o ∈ ([] : List Nat) from ho) (by simp)) oln noS, ?_, rfl⟩
    simp only [voteF, h', if_true]
    try rfl
  · have h' : decide (80 ≤ n.seen.length) = false := by simp at h ⊢; omega
    refine aW ?_
    refine aS (aR ?_)
    refine oC (oF f90_1_NodS rfl rfl) ?_
    refine oC (oD ty3 rfl rfl rfl) ?_
    refine oC (oF f90_2_NodS rfl rfl) ?_
    refine oC (op_st ty3 rfl rfl (Conv.of rfl) rfl) ?_
    refine oN ?_
    refine aS (dS ?_)
    refine dC (oF f90_3_NodS rfl rfl) ?_
    refine dC (op_ldm ty24_OListVote rfl rfl rfl) ?_
    refine dC (oD ty38 rfl rfl rfl) ?_
    refine dC (oL fb160 (.cons rfl (Conv.of rfl) (.nil _)) (l3VoteCopy_ct ⟨n.id, c⟩ hc) (aK rfl rfl aK0) rfl rfl) ?_
    refine dC (op_bsl sl24 z38 (.cons rfl (Conv.of rfl) (.nil _)) rfl (by decide) rfl) ?_
    refine dC (op_app sl24 z38 ul24 rfl rfl rfl (by (simp; omega)) (by (simp; omega)) rfl rfl) ?_
    refine dC (oF f90_3_NodS rfl rfl) ?_
    refine dC (op_stm ty24_OListVote rfl rfl rfl) ?_
    refine dr_nil mixed rfl ?_
    refine aS (dS ?_)
    refine dC (op_ldm ty90_NodS rfl rfl rfl) ?_
    refine dC (oD ty38 rfl rfl rfl) ?_
    refine dC (op_stm ty90_NodS rfl rfl rfl) ?_
    refine dC (op_st ty38 rfl rfl (Conv.of rfl) rfl) ?_
    refine dC (oA rfl (Conv.of rfl) rfl) ?_
    refine dr_nil mixed rfl ?_
    refine aT ?_
    repeat first | refine rS ?_ | refine rB ?_
    refine ⟨_, _, rNM (ol := []) (.cell ty90_NodS rfl rfl (.keep (.rc ty38 rfl rfl) (.keep (.v rfl (Conv.of rfl)) (.nil _)))) rfl (fun o ho => absurd (show o ∈ ([] : List Nat) from ho) (by simp)) oln noS, ?_, rfl⟩
    simp only [voteF, h']
    try rfl
theorem l12Fits_ct (n : Nod) (u : Vote) (long : Nat) (hu : 0 < u.chain.length) (hn : 0 ≤ n.epoch ∧ n.epoch ≤ 30) : CtP Tryz.prog 176 [.v (fN n), .v u, .v (long : Int)] (.v (fitsS n u long)) := by
  have hx : u.chain[u.chain.length - 1]? = some (u.chain[u.chain.length - 1]'(by omega)) := List.getElem?_eq_getElem (by omega)
  have hx' : u.chain[((u.chain.length : Int) - 1).toNat]? = some (u.chain[u.chain.length - 1]'(by omega)) := by
    rw [show ((u.chain.length : Int) - 1).toNat = u.chain.length - 1 by omega]; exact hx
  unfold fN
  refine Ct.intro Tryz.func176 rfl rfl ?_
  all_goals refine aS (aR ?_)
  all_goals refine oC (op_box (o := 0) ty90_NodS rfl (Conv.of rfl) rfl rfl) ?_
  all_goals refine oC (op_box (o := 1) ty38 rfl (Conv.of rfl) rfl rfl) ?_
  all_goals refine oC (oA rfl (Conv.of rfl) rfl) ?_
  all_goals refine oN ?_
  all_goals refine aS (aR ?_)
  all_goals refine oC (oF f38_1 rfl rfl) ?_
  all_goals refine oC (oD ty27 rfl rfl rfl) ?_
  refine awpOps_bigL 9 rfl (fun hb => ?_)
  all_goals refine oC (oE sl27 rfl rfl) ?_
  all_goals refine oC (op_sub rfl rfl rfl (by omega)) ?_
  all_goals refine oC (oA rfl (Conv.of rfl) rfl) ?_
  all_goals refine oN ?_
  all_goals refine aS (dS ?_)
  all_goals refine dC (oF f38_0 rfl rfl) ?_
  all_goals refine dC (oD ty3 rfl rfl rfl) ?_
  all_goals refine dC (oF f90_1_NodS rfl rfl) ?_
  all_goals refine dC (oD ty3 rfl rfl rfl) ?_
  all_goals refine dC (oL fb80 (.cons rfl (Conv.of rfl) (.nil _)) (l3Leader_ct _ (by show -1000 ≤ n.epoch ∧ n.epoch ≤ 1000000; omega)) (aK rfl rfl aK0) rfl rfl) ?_
  all_goals refine dC (op_eql rfl rfl rfl) ?_
  all_goals refine dC (oM rfl (Conv.of rfl) rfl) ?_
  all_goals refine dr_split (t := 18) rfl (fun h => ?_) (fun h => ?_)
  all_goals first | refine dC (gF rfl rfl rfl rfl rfl) ?_ | refine dC (gN rfl rfl rfl (oF f38_1 rfl rfl)) ?_
  all_goals first | refine dC (gF rfl rfl rfl rfl rfl) ?_ | refine dC (gN rfl rfl rfl (oD ty27 rfl rfl rfl)) ?_
  all_goals first | refine dC (gF rfl rfl rfl rfl rfl) ?_ | refine dC (gN rfl rfl rfl (oM rfl (Conv.of rfl) rfl)) ?_
  all_goals first | refine dC (gF rfl rfl rfl rfl rfl) ?_ | refine dC (gN rfl rfl rfl (op_ix sl27 rfl rfl rfl (by omega) hx')) ?_
  all_goals first | refine dC (gF rfl rfl rfl rfl rfl) ?_ | refine dC (gN rfl rfl rfl (oFR f143_0 rfl rfl)) ?_
  all_goals first | refine dC (gF rfl rfl rfl rfl rfl) ?_ | refine dC (gN rfl rfl rfl (oDR ty3 rfl rfl)) ?_
  all_goals first | refine dC (gF rfl rfl rfl rfl rfl) ?_ | refine dC (gN rfl rfl rfl (oF f90_1_NodS rfl rfl)) ?_
  all_goals first | refine dC (gF rfl rfl rfl rfl rfl) ?_ | refine dC (gN rfl rfl rfl (oD ty3 rfl rfl rfl)) ?_
  all_goals first | refine dC (gF rfl rfl rfl rfl rfl) ?_ | refine dC (gN rfl rfl rfl (op_eql rfl rfl rfl)) ?_
  all_goals refine dC (oQ rfl rfl rfl rfl) ?_
  all_goals refine dC (oM rfl (Conv.of rfl) rfl) ?_
  all_goals first | refine dr_lit (t := 29) (b := false) rfl ?_ | refine dr_split (t := 29) rfl (fun h => ?_) (fun h => ?_)
  all_goals first | refine dC (gF rfl rfl rfl rfl rfl) ?_ | refine dC (gN rfl rfl rfl (oM rfl (Conv.of rfl) rfl)) ?_
  all_goals first | refine dC (gF rfl rfl rfl rfl rfl) ?_ | refine dC (gN rfl rfl rfl (oM rfl (Conv.of rfl) rfl)) ?_
  all_goals first | refine dC (gF rfl rfl rfl rfl rfl) ?_ | refine dC (gN rfl rfl rfl (op_eql rfl rfl rfl)) ?_
  all_goals refine dC (oQ rfl rfl rfl rfl) ?_
  all_goals refine dC (oM rfl (Conv.of rfl) rfl) ?_
  all_goals first | refine dr_lit (t := 34) (b := false) rfl ?_ | refine dr_split (t := 34) rfl (fun h => ?_) (fun h => ?_)
  all_goals first | refine dC (gF rfl rfl rfl rfl rfl) ?_ | refine dC (gN rfl rfl rfl (oF f90_3_NodS rfl rfl)) ?_
  all_goals first | refine dC (gF rfl rfl rfl rfl rfl) ?_ | refine dC (gN rfl rfl rfl (op_ldl ty24_OListVote rfl rfl rfl)) ?_
  all_goals first | refine dC (gF rfl rfl rfl rfl rfl) ?_ | refine dC (gN rfl rfl rfl (oF f38_1 rfl rfl)) ?_
  all_goals first | refine dC (gF rfl rfl rfl rfl rfl) ?_ | refine dC (gN rfl rfl rfl (oD ty27 rfl rfl rfl)) ?_
  all_goals first | refine dC (gF rfl rfl rfl rfl rfl) ?_ | refine dC (gN rfl rfl rfl (oM rfl (Conv.of rfl) rfl)) ?_
  all_goals first | refine dC (gF rfl rfl rfl rfl rfl) ?_ | refine dC (gN rfl rfl rfl (op_slh sl27 rfl rfl rfl ⟨by omega, by omega⟩)) ?_
  all_goals first | refine dC (gF rfl rfl rfl rfl rfl) ?_ | refine dC (gN rfl rfl rfl (oL fb143 (.cons rfl (Conv.of rfl) (.cons rfl (Conv.of rfl) (.nil _))) (l11Sure_ct _ _) (aK rfl rfl (aK rfl rfl aK0)) rfl rfl)) ?_
  all_goals refine dC (oQ rfl rfl rfl rfl) ?_
  all_goals refine dC (oA rfl (Conv.of rfl) rfl) ?_
  all_goals refine dr_nil mixed rfl ?_
  all_goals refine aT ?_
  all_goals refine finP (.v rfl (Conv.of rfl)) rfl ?_
  all_goals (simp only [FV.av]; congr 1; rw [fitsS_alt hu, lastEp_get hx]; simp_all)
end Go.Proofs.YtmhmeppocbcmeaaGreat

/- The reference: sure chains. -/
set_option linter.unusedVariables false
set_option linter.unusedSimpArgs false
namespace Go.Proofs.YtmhmeppocbcmeaaGreat
open Go Go.Wt
set_option maxHeartbeats 1000000 in
theorem l11All_ct (l : List Vote) (hl : l.length ≤ 100000) (hv : ∀ v ∈ l, v.chain.length ≤ 1000000) : CtP Tryz.prog 92 [.v l] (.v (OList.mk (allOfS l) true)) := by
  refine Ct.intro Tryz.func92 rfl rfl ?_
  all_goals refine aS (aR ?_)
  all_goals refine oC (oA rfl (Conv.of rfl) rfl) ?_
  all_goals refine oN ?_
  all_goals refine aS (aR ?_)
  all_goals refine oC (op_bsl sl27 z143 (.nil _) rfl (by decide) rfl) ?_
  all_goals refine oC (op_bsl sl133 z27 (.cons rfl (Conv.ol) (.nil _)) rfl (by decide) rfl) ?_
  all_goals refine oC (op_asl rfl rfl rfl rfl) ?_
  all_goals refine oN ?_
  all_goals refine aS (aS (aR ?_))
  all_goals refine oC (oA rfl (Conv.of rfl) rfl) ?_
  all_goals refine oN ?_
  refine aB ?_
  refine awp_loop' (fun n s => ∃ (k : Nat), ∃ (hn : n + k = l.length), s = mkSt 55 [(0, .v l), (3, .v (OList.mk ((l.take k).foldl (allStepS l) [[]]) true)), (4, .v (k : Int))] []) (l.length) ⟨0, by omega, rfl⟩ (Le.mk rfl (tle rfl (rfl) rfl (tle rfl (by rfl) rfl (tle rfl (rfl) rfl tln))) oln noS) ?_
  rintro n s ⟨k, hn, rfl⟩
  generalize hO : (l.take k).foldl (allStepS l) [[]] = out
  have hout : out.length ≤ 100001 := by
    have := allStepS_len l (l.take k) [[]]
    rw [hO] at this
    simp at this; omega
  all_goals refine aS (aS (aR ?_))
  all_goals refine oC (oM rfl (Conv.of rfl) rfl) ?_
  all_goals refine oC (oM rfl (Conv.of rfl) rfl) ?_
  all_goals refine oC (oE sl24 rfl rfl) ?_
  all_goals refine oC (oLt rfl rfl rfl) ?_
  all_goals refine oN ?_
  refine aC rfl (fun h => ?_) (fun h => ?_)
  · have hlt : k < l.length := by simpa using h
    have hx : l[k]? = some l[k] := List.getElem?_eq_getElem hlt
    refine aW ?_
    refine aS (aB ?_)
    all_goals refine aS (aR ?_)
    all_goals refine oC (oA rfl (Conv.of rfl) rfl) ?_
    all_goals refine oN ?_
    all_goals refine aS (aS (aR ?_))
    all_goals refine oC (oA rfl (Conv.of rfl) rfl) ?_
    all_goals refine oN ?_
    refine awp_to (s' := mkSt 55 [(0, .v l), (3, .v (OList.mk out true)), (4, .v (k : Int)), (5, .v (decide (l[k].chain ∈ out)))] []) ?_ ?_
    · refine aB ?_
      refine awp_loop' (fun n_ s => ∃ (m : Nat), ∃ (hn2 : n_ + m = out.length), s = mkSt 55 [(0, .v l), (3, .v (OList.mk out true)), (4, .v (k : Int)), (5, .v (decide (l[k].chain ∈ out.take m))), (6, .v (m : Int))] []) (out.length) ⟨0, by omega, rfl⟩ (Le.mk rfl (tle rfl (rfl) rfl (tle rfl (rfl) rfl (tle rfl (rfl) rfl (tle rfl (by rfl) rfl (tle rfl (rfl) rfl tln))))) oln noS) ?_
      rintro n_ s ⟨m, hn2, rfl⟩
      all_goals refine aS (aS (aR ?_))
      all_goals refine oC (oM rfl (Conv.of rfl) rfl) ?_
      all_goals refine oC (oM rfl Conv.ol rfl) ?_
      all_goals refine oC (oE sl133 rfl rfl) ?_
      all_goals refine oC (oLt rfl rfl rfl) ?_
      all_goals refine oN ?_
      refine aC rfl (fun h2 => ?_) (fun h2 => ?_)
      · have hlt2 : m < out.length := by simpa using h2
        have hy : out[m]? = some out[m] := List.getElem?_eq_getElem hlt2
        have hs2 := mem_take_c (v := l[k].chain) hy
        refine aW ?_
        refine aS (aB ?_)
        refine awp_toB (s' := mkSt 55 [(0, .v l), (3, .v (OList.mk out true)), (4, .v (k : Int)), (5, .v (decide (l[k].chain ∈ out.take (m + 1)))), (6, .v (m : Int))] []) ?_ ?_
        · all_goals refine dS ?_
          all_goals refine dC (oM rfl (Conv.of rfl) rfl) ?_
          all_goals refine dC (oM rfl (Conv.of rfl) rfl) ?_
          all_goals refine dr_split (t := 22) rfl (fun h => ?_) (fun h => ?_)
          all_goals first | refine dC (gF rfl rfl rfl rfl rfl) ?_ | refine dC (gN rfl rfl rfl (oM rfl Conv.ol rfl)) ?_
          all_goals first | refine dC (gF rfl rfl rfl rfl rfl) ?_ | refine dC (gN rfl rfl rfl (oM rfl (Conv.of rfl) rfl)) ?_
          all_goals first | refine dC (gF rfl rfl rfl rfl rfl) ?_ | refine dC (gN rfl rfl rfl (op_ix sl133 rfl rfl rfl (by omega) hy)) ?_
          all_goals first | refine dC (gF rfl rfl rfl rfl rfl) ?_ | refine dC (gN rfl rfl rfl (oDR ty27 rfl rfl)) ?_
          all_goals first | refine dC (gF rfl rfl rfl rfl rfl) ?_ | refine dC (gN rfl rfl rfl (oM rfl (Conv.of rfl) rfl)) ?_
          all_goals first | refine dC (gF rfl rfl rfl rfl rfl) ?_ | refine dC (gN rfl rfl rfl (oM rfl (Conv.of rfl) rfl)) ?_
          all_goals first | refine dC (gF rfl rfl rfl rfl rfl) ?_ | refine dC (gN rfl rfl rfl (op_ix sl24 rfl rfl rfl (by omega) hx)) ?_
          all_goals first | refine dC (gF rfl rfl rfl rfl rfl) ?_ | refine dC (gN rfl rfl rfl (oFR f38_1 rfl rfl)) ?_
          all_goals first | refine dC (gF rfl rfl rfl rfl rfl) ?_ | refine dC (gN rfl rfl rfl (oDR ty27 rfl rfl)) ?_
          all_goals first | refine dC (gF rfl rfl rfl rfl rfl) ?_ | refine dC (gN rfl rfl rfl (oL fb142 (.cons rfl (Conv.of rfl) (.cons rfl (Conv.of rfl) (.nil _))) (l3Same_ct _ _) (aK rfl rfl (aK rfl rfl aK0)) rfl rfl)) ?_
          all_goals refine dC (oQ rfl rfl rfl rfl) ?_
          all_goals refine dC (oA rfl (Conv.of rfl) rfl) ?_
          all_goals refine dr_nil mixed rfl ?_
          all_goals exact Le.mk rfl (tle rfl (rfl) rfl (tle rfl (rfl) rfl (tle rfl (rfl) rfl (tle rfl (by (rw [hs2]; clear hs2; simp_all)) rfl (tle rfl (rfl) rfl tln))))) oln noS
        all_goals refine aR ?_
        all_goals refine oC (oM rfl (Conv.of rfl) rfl) ?_
        all_goals refine oC (oP rfl rfl rfl (by omega)) ?_
        all_goals refine oC (oA rfl (Conv.of rfl) rfl) ?_
        all_goals refine oN ?_
        repeat first | refine nS ?_ | refine nB ?_
        exact ⟨n_ - 1, _, by omega, ⟨m + 1, by omega, rfl⟩, Le.mk rfl (tle rfl (rfl) rfl (tle rfl (rfl) rfl (tle rfl (rfl) rfl (tle rfl (by rfl) rfl (tle rfl (rfl) rfl tln))))) oln noS⟩
      · refine aE ?_
        repeat refine ex_seq ?_
        refine eB ?_
        have hm : out.length ≤ m := by simpa using h2
        all_goals exact Le.mk rfl (tle rfl (rfl) rfl (tle rfl (rfl) rfl (tle rfl (rfl) rfl (tle rfl (by (simp only [take_end hm])) rfl tln)))) oln noS
    · refine aST (s' := mkSt 55 [(0, .v l), (3, .v (OList.mk out true)), (4, .v (k : Int)), (44, .v (!decide (l[k].chain ∈ out) && sureS l l[k].chain))] []) ?_ ?_
      · all_goals refine aR ?_
        all_goals refine oC (oM rfl (Conv.of rfl) rfl) ?_
        all_goals refine oC (op_not rfl rfl) ?_
        all_goals refine oC (oM rfl (Conv.of rfl) rfl) ?_
        all_goals refine g_split (t := 36) rfl (fun h => ?_) (fun h => ?_)
        all_goals first | refine oC (gF rfl rfl rfl rfl rfl) ?_ | refine oC (gN rfl rfl rfl (oM rfl (Conv.of rfl) rfl)) ?_
        all_goals first | refine oC (gF rfl rfl rfl rfl rfl) ?_ | refine oC (gN rfl rfl rfl (oM rfl (Conv.of rfl) rfl)) ?_
        all_goals first | refine oC (gF rfl rfl rfl rfl rfl) ?_ | refine oC (gN rfl rfl rfl (oM rfl (Conv.of rfl) rfl)) ?_
        all_goals first | refine oC (gF rfl rfl rfl rfl rfl) ?_ | refine oC (gN rfl rfl rfl (op_ix sl24 rfl rfl rfl (by omega) hx)) ?_
        all_goals first | refine oC (gF rfl rfl rfl rfl rfl) ?_ | refine oC (gN rfl rfl rfl (oFR f38_1 rfl rfl)) ?_
        all_goals first | refine oC (gF rfl rfl rfl rfl rfl) ?_ | refine oC (gN rfl rfl rfl (oDR ty27 rfl rfl)) ?_
        all_goals first | refine oC (gF rfl rfl rfl rfl rfl) ?_ | refine oC (gN rfl rfl rfl (oL fb143 (.cons rfl (Conv.of rfl) (.cons rfl (Conv.of rfl) (.nil _))) (l11Sure_ct _ _) (aK rfl rfl (aK rfl rfl aK0)) rfl rfl)) ?_
        all_goals refine oC (oQ rfl rfl rfl rfl) ?_
        all_goals refine oN ?_
        all_goals exact Le.mk rfl (tle rfl (rfl) rfl (tle rfl (rfl) rfl (tle rfl (rfl) rfl (tle rfl (by simp_all) rfl tln)))) oln noS
      refine aC rfl (fun hb => ?_) (fun hb => ?_)
      · all_goals refine aR ?_
        all_goals refine oC (op_mvl rfl rfl rfl rfl) ?_
        all_goals refine oC (oM rfl (Conv.of rfl) rfl) ?_
        all_goals refine oC (oM rfl (Conv.of rfl) rfl) ?_
        all_goals refine oC (op_ix sl24 rfl rfl rfl (by omega) hx) ?_
        all_goals refine oC (oFR f38_1 rfl rfl) ?_
        all_goals refine oC (oDR ty27 rfl rfl) ?_
        all_goals refine oC (oL fb107 (.cons rfl (Conv.of rfl) (.nil _)) (l1Copy_ct _ (hv _ (List.getElem_mem hlt))) (aK rfl rfl aK0) rfl rfl) ?_
        all_goals refine oC (op_bsl sl133 z27 (.cons rfl (Conv.ol) (.nil _)) rfl (by decide) rfl) ?_
        all_goals refine oC (op_app sl133 z27 ul133 rfl rfl rfl (by (simp; omega)) (by (simp; omega)) rfl rfl) ?_
        all_goals refine oC (op_asl rfl rfl rfl rfl) ?_
        all_goals refine oN ?_
        all_goals refine aR ?_
        all_goals refine oC (oM rfl (Conv.of rfl) rfl) ?_
        all_goals refine oC (oP rfl rfl rfl (by omega)) ?_
        all_goals refine oC (oA rfl (Conv.of rfl) rfl) ?_
        all_goals refine oN ?_
        repeat first | refine nS ?_ | refine nB ?_
        exact ⟨n - 1, _, by omega, ⟨k + 1, by omega, rfl⟩, Le.mk rfl (tle rfl (rfl) rfl (tle rfl (by (rw [foldl_at _ _ hx, hO]; simp only [allStepS, hb]; try rfl)) rfl (tle rfl (rfl) rfl tln))) oln noS⟩
      · refine aW ?_
        all_goals refine aR ?_
        all_goals refine oC (oM rfl (Conv.of rfl) rfl) ?_
        all_goals refine oC (oP rfl rfl rfl (by omega)) ?_
        all_goals refine oC (oA rfl (Conv.of rfl) rfl) ?_
        all_goals refine oN ?_
        repeat first | refine nS ?_ | refine nB ?_
        exact ⟨n - 1, _, by omega, ⟨k + 1, by omega, rfl⟩, Le.mk rfl (tle rfl (rfl) rfl (tle rfl (by (rw [foldl_at _ _ hx, hO]; simp only [allStepS, hb]; try rfl)) rfl (tle rfl (rfl) rfl tln))) oln noS⟩
  · refine aE ?_
    repeat refine ex_seq ?_
    refine eB ?_
    have hk : l.length ≤ k := by simpa using h
    all_goals refine aS (aR ?_)
    all_goals refine oC (op_mvl rfl rfl rfl rfl) ?_
    all_goals refine oC (op_asl rfl rfl rfl rfl) ?_
    all_goals refine oN ?_
    refine aT ?_
    repeat first | refine rS ?_ | refine rB ?_
    exact finM rfl rfl (by rw [← hO, take_end hk]; rfl)
theorem l11Tip_ct (l : List Vote) (hl : l.length ≤ 100000) (hv : ∀ v ∈ l, v.chain.length ≤ 1000000) : CtP Tryz.prog 161 [.v l] (.v (tipOfS l)) := by
  have h0 := allOfS_0 l
  have hall : (allOfS l).length ≤ 100001 := by
    have := allStepS_len l l [[]]
    simp at this; unfold allOfS; omega
  have hpos : 0 < (allOfS l).length := (List.getElem?_eq_some_iff.1 h0).1
  refine Ct.intro Tryz.func161 rfl rfl ?_
  refine aS (aR ?_)
  refine oC (oA rfl (Conv.of rfl) rfl) ?_
  refine oN ?_
  refine aS (aR ?_)
  refine oC (oM rfl (Conv.of rfl) rfl) ?_
  refine oC (oL fb92 (.cons rfl (Conv.of rfl) (.nil _)) (l11All_ct l hl hv) (aK rfl rfl aK0) rfl rfl) ?_
  refine oC (oA rfl Conv.ol rfl) ?_
  refine oN ?_
  refine aS (aR ?_)
  refine oC (oM rfl (Conv.of rfl) rfl) ?_
  refine oC (op_ix sl133 rfl rfl rfl (by omega) h0) ?_
  refine oC (oDR ty27 rfl rfl) ?_
  refine oC (oA rfl (Conv.of rfl) rfl) ?_
  refine oN ?_
  refine aS (aS (aR ?_))
  refine oC (oA rfl (Conv.of rfl) rfl) ?_
  refine oN ?_
  refine aB ?_
  refine awp_loop' (fun n s => ∃ (k : Nat), ∃ (hn : n + k = (allOfS l).length), ∃ (hk1 : 1 ≤ k), s = mkSt 30 [(3, .v (allOfS l)), (4, .v (((allOfS l).take k).foldl tipStep [])), (5, .v (k : Int))] []) ((allOfS l).length - 1) ⟨1, by omega, Nat.le_refl _, rfl⟩ (Le.mk rfl (tle rfl (rfl) rfl (tle rfl (by (first | (show AV.v _ = AV.v _; rw [show (allOfS l).take 1 = [[]] from by rw [take_at h0]; rfl]; rfl) | rw [foldl_at _ _ hx]; simp only [tipStep, hb'']; try rfl)) rfl (tle rfl (rfl) rfl tln))) oln noS) ?_
  rintro n s ⟨k, hn, hk1, rfl⟩
  refine aS (aS (aR ?_))
  refine oC (oM rfl (Conv.of rfl) rfl) ?_
  refine oC (oM rfl (Conv.of rfl) rfl) ?_
  refine oC (oE sl133 rfl rfl) ?_
  refine oC (oLt rfl rfl rfl) ?_
  refine oN ?_
  refine aC rfl (fun h => ?_) (fun h => ?_)
  · have hlt : k < (allOfS l).length := by simpa using h
    have hx : (allOfS l)[k]? = some (allOfS l)[k] := List.getElem?_eq_getElem hlt
    refine aW ?_
    refine aS (aB ?_)
    refine aS (aR ?_)
    refine oC (oM rfl (Conv.of rfl) rfl) ?_
    refine oC (oM rfl (Conv.of rfl) rfl) ?_
    refine oC (op_ix sl133 rfl rfl rfl (by omega) hx) ?_
    refine oC (oDR ty27 rfl rfl) ?_
    refine oC (oE sl27 rfl rfl) ?_
    refine oC (oM rfl (Conv.of rfl) rfl) ?_
    refine oC (oE sl27 rfl rfl) ?_
    refine oC (op_gtr rfl rfl rfl) ?_
    refine oN ?_
    refine aC rfl (fun hb => ?_) (fun hb => ?_)
    · have hb'' : decide ((((allOfS l).take k).foldl tipStep []).length < ((allOfS l)[k]).length) = true := by simp at hb ⊢; omega
      refine aR ?_
      refine oC (oM rfl (Conv.of rfl) rfl) ?_
      refine oC (oM rfl (Conv.of rfl) rfl) ?_
      refine oC (op_ix sl133 rfl rfl rfl (by omega) hx) ?_
      refine oC (oDR ty27 rfl rfl) ?_
      refine oC (oA rfl (Conv.of rfl) rfl) ?_
      refine oN ?_
      refine aR ?_
      refine oC (oM rfl (Conv.of rfl) rfl) ?_
      refine oC (oP rfl rfl rfl (by omega)) ?_
      refine oC (oA rfl (Conv.of rfl) rfl) ?_
      refine oN ?_
      repeat first | refine nS ?_ | refine nB ?_
      exact ⟨n - 1, _, by omega, ⟨k + 1, by omega, by omega, rfl⟩, Le.mk rfl (tle rfl (rfl) rfl (tle rfl (by (first | (show AV.v _ = AV.v _; rw [show (allOfS l).take 1 = [[]] from by rw [take_at h0]; rfl]; rfl) | rw [foldl_at _ _ hx]; simp only [tipStep, hb'']; try rfl)) rfl (tle rfl (rfl) rfl tln))) oln noS⟩
    · have hb'' : decide ((((allOfS l).take k).foldl tipStep []).length < ((allOfS l)[k]).length) = false := by simp at hb ⊢; omega
      refine aW ?_
      refine aR ?_
      refine oC (oM rfl (Conv.of rfl) rfl) ?_
      refine oC (oP rfl rfl rfl (by omega)) ?_
      refine oC (oA rfl (Conv.of rfl) rfl) ?_
      refine oN ?_
      repeat first | refine nS ?_ | refine nB ?_
      exact ⟨n - 1, _, by omega, ⟨k + 1, by omega, by omega, rfl⟩, Le.mk rfl (tle rfl (rfl) rfl (tle rfl (by (first | (show AV.v _ = AV.v _; rw [show (allOfS l).take 1 = [[]] from by rw [take_at h0]; rfl]; rfl) | rw [foldl_at _ _ hx]; simp only [tipStep, hb'']; try rfl)) rfl (tle rfl (rfl) rfl tln))) oln noS⟩
  · refine aE ?_
    repeat refine ex_seq ?_
    refine eB ?_
    have hk : (allOfS l).length ≤ k := by simpa using h
    refine aS (aR ?_)
    refine oC (oM rfl (Conv.of rfl) rfl) ?_
    refine oC (oA rfl (Conv.of rfl) rfl) ?_
    refine oN ?_
    refine aT ?_
    repeat first | refine rS ?_ | refine rB ?_
    refine finP (.v rfl (Conv.of rfl)) rfl ?_
    simp only [take_end hk]; rfl
end Go.Proofs.YtmhmeppocbcmeaaGreat

/- The reference: a node proposes. -/
set_option linter.unusedVariables false
set_option linter.unusedSimpArgs false
namespace Go.Proofs.YtmhmeppocbcmeaaGreat
open Go Go.Wt
set_option maxHeartbeats 1000000 in
theorem l12Propose_ct (n : Nod) (p : Pay) (hn : Gd n.seen) (he : 0 ≤ n.epoch ∧ n.epoch ≤ 30) : CtP Tryz.prog 134 [.v (sN n), .v p] (res3S (proposeS n p)) := by
  have htip := hn.tipS
  unfold sN
  refine Ct.intro Tryz.func134 rfl rfl ?_
  all_goals refine aS (aR ?_)
  all_goals refine oC (op_boxm (o := 0) ty90_NodS rfl rfl rfl rfl) ?_
  all_goals refine oC (op_box (o := 1) ty75 rfl (Conv.of rfl) rfl rfl) ?_
  all_goals refine oC (oX (o := 2) z90_NodS rfl rfl) ?_
  all_goals refine oC (oX (o := 3) z38 rfl rfl) ?_
  all_goals refine oC (oA rfl (Conv.of rfl) rfl) ?_
  all_goals refine oN ?_
  refine aS (aST (s' := mkSt 49 [(2, .box 0 (IsLens.whole NodS)), (3, .box 1 (IsLens.whole Pay)), (4, .box 2 (IsLens.whole NodS)), (5, .box 3 (IsLens.whole Vote)), (6, .v false), (25, .v (decide (n.epoch = 0) || decide (n.voted = n.epoch) || !decide (leadS n.epoch = n.id)))] [(0, .cell (sN n)), (1, .cell p), (2, .cell NodS.zero), (3, .cell Vote.zero)]) ?_ ?_)
  · all_goals refine dS ?_
    all_goals refine dC (oF f90_1_NodS rfl rfl) ?_
    all_goals refine dC (oD ty3 rfl rfl rfl) ?_
    all_goals refine dC (op_eql rfl rfl rfl) ?_
    all_goals refine dC (oM rfl (Conv.of rfl) rfl) ?_
    all_goals refine dr_split (t := 11) rfl (fun h => ?_) (fun h => ?_)
    all_goals first | refine dC (gF rfl rfl rfl rfl rfl) ?_ | refine dC (gN rfl rfl rfl (oF f90_2_NodS rfl rfl)) ?_
    all_goals first | refine dC (gF rfl rfl rfl rfl rfl) ?_ | refine dC (gN rfl rfl rfl (oD ty3 rfl rfl rfl)) ?_
    all_goals first | refine dC (gF rfl rfl rfl rfl rfl) ?_ | refine dC (gN rfl rfl rfl (oF f90_1_NodS rfl rfl)) ?_
    all_goals first | refine dC (gF rfl rfl rfl rfl rfl) ?_ | refine dC (gN rfl rfl rfl (oD ty3 rfl rfl rfl)) ?_
    all_goals first | refine dC (gF rfl rfl rfl rfl rfl) ?_ | refine dC (gN rfl rfl rfl (op_eql rfl rfl rfl)) ?_
    all_goals refine dC (oQ rfl rfl rfl rfl) ?_
    all_goals refine dC (oM rfl (Conv.of rfl) rfl) ?_
    all_goals first | refine dr_lit (t := 18) (b := true) rfl ?_ | refine dr_split (t := 18) rfl (fun h => ?_) (fun h => ?_)
    all_goals first | refine dC (gF rfl rfl rfl rfl rfl) ?_ | refine dC (gN rfl rfl rfl (oF f90_1_NodS rfl rfl)) ?_
    all_goals first | refine dC (gF rfl rfl rfl rfl rfl) ?_ | refine dC (gN rfl rfl rfl (oD ty3 rfl rfl rfl)) ?_
    all_goals first | refine dC (gF rfl rfl rfl rfl rfl) ?_ | refine dC (gN rfl rfl rfl (oL fb80 (.cons rfl (Conv.of rfl) (.nil _)) (l3Leader_ct _ (by show -1000 ≤ n.epoch ∧ n.epoch ≤ 1000000; omega)) (aK rfl rfl aK0) rfl rfl)) ?_
    all_goals first | refine dC (gF rfl rfl rfl rfl rfl) ?_ | refine dC (gN rfl rfl rfl (oF f90_0_NodS rfl rfl)) ?_
    all_goals first | refine dC (gF rfl rfl rfl rfl rfl) ?_ | refine dC (gN rfl rfl rfl (oD ty3 rfl rfl rfl)) ?_
    all_goals first | refine dC (gF rfl rfl rfl rfl rfl) ?_ | refine dC (gN rfl rfl rfl (op_neq rfl rfl rfl)) ?_
    all_goals refine dC (oQ rfl rfl rfl rfl) ?_
    all_goals refine dr_nil mixed rfl ?_
    all_goals exact Le.mk rfl (tlb rfl rfl rfl (tlb rfl rfl rfl (tlb rfl rfl rfl (tlb rfl rfl rfl (tle rfl (rfl) rfl (tle rfl (by (clear htip; simp_all [sN]; try (rw [Bool.eq_iff_iff]; simp))) rfl tln)))))) (olk rfl (by exact obOkN) (olk rfl (by exact bC) (olk rfl (by exact obOkN) (olk rfl (by exact bC) oln)))) noS
  refine aC rfl (fun h => ?_) (fun h => ?_)
  · all_goals refine aS (aR ?_)
    all_goals refine oC (op_ldm ty90_NodS rfl rfl rfl) ?_
    all_goals refine oC (op_build (.nil _) z38 rfl pl38 rfl) ?_
    all_goals refine oC (op_stm ty90_NodS rfl rfl rfl) ?_
    all_goals refine oC (op_st ty38 rfl rfl (Conv.of rfl) rfl) ?_
    all_goals refine oC (oA rfl (Conv.of rfl) rfl) ?_
    all_goals refine oN ?_
    refine aT ?_
    repeat first | refine rS ?_ | refine rB ?_
    refine ⟨_, _, rNM (ol := []) (.cell ty90_NodS rfl rfl (.keep (.rc ty38 rfl rfl) (.keep (.v rfl (Conv.of rfl)) (.nil _)))) rfl (fun o ho => absurd (show o ∈ ([] : List Nat) from ho) (by simp)) oln noS, ?_, rfl⟩
    rw [proposeS, h, if_pos rfl]; rfl
  · refine aW ?_
    all_goals refine aS (dS ?_)
    all_goals refine dC (oF f90_3_NodS rfl rfl) ?_
    all_goals refine dC (op_ldl ty24_OListVote rfl rfl rfl) ?_
    all_goals refine dC (oL fb161 (.cons rfl (Conv.of rfl) (.nil _)) (l11Tip_ct _ hn.l hn.v) (aK rfl rfl aK0) rfl rfl) ?_
    all_goals refine dC (oL fb107 (.cons rfl (Conv.of rfl) (.nil _)) (l1Copy_ct _ (by show (tipOfS n.seen).length ≤ 1000000; omega)) (aK rfl rfl aK0) rfl rfl) ?_
    all_goals refine dC (oF f90_1_NodS rfl rfl) ?_
    all_goals refine dC (oD ty3 rfl rfl rfl) ?_
    all_goals refine dC (oD ty75 rfl rfl rfl) ?_
    all_goals refine dC (op_build (.cons f143_0 rfl (Conv.of rfl) (.cons f143_1 rfl (Conv.of rfl) (.nil _))) z143 rfl pl143 rfl) ?_
    all_goals refine dC (op_bsl sl27 z143 (.cons rfl (Conv.of rfl) (.nil _)) rfl (by decide) rfl) ?_
    all_goals refine dC (op_app sl27 z143 ul27 rfl rfl rfl (by (simp [sN]; omega)) (by (simp [sN]; omega)) rfl rfl) ?_
    all_goals refine dC (op_asl rfl rfl rfl rfl) ?_
    all_goals refine dr_nil mixed rfl ?_
    all_goals refine aS (aS (aR ?_))
    all_goals refine oC (oM rfl Conv.ol rfl) ?_
    all_goals refine oC (oL fb104 (.cons rfl (Conv.of rfl) (.nil _)) (sChainOk_ct _) (aK rfl rfl aK0) rfl rfl) ?_
    all_goals refine oC (op_not rfl rfl) ?_
    all_goals refine oN ?_
    refine aC rfl (fun h2 => ?_) (fun h2 => ?_)
    · all_goals refine aS (aR ?_)
      all_goals refine oC (op_ldm ty90_NodS rfl rfl rfl) ?_
      all_goals refine oC (op_build (.nil _) z38 rfl pl38 rfl) ?_
      all_goals refine oC (op_stm ty90_NodS rfl rfl rfl) ?_
      all_goals refine oC (op_st ty38 rfl rfl (Conv.of rfl) rfl) ?_
      all_goals refine oC (oA rfl (Conv.of rfl) rfl) ?_
      all_goals refine oN ?_
      refine aT ?_
      repeat first | refine rS ?_ | refine rB ?_
      refine ⟨_, _, rNM (ol := []) (.cell ty90_NodS rfl rfl (.keep (.rc ty38 rfl rfl) (.keep (.v rfl (Conv.of rfl)) (.nil _)))) rfl (fun o ho => absurd (show o ∈ ([] : List Nat) from ho) (by simp)) oln noS, ?_, rfl⟩
      have h2' := not_t h2
      rw [proposeS, h, if_neg (by decide), if_neg (by rw [show chainOk (tipOfS n.seen ++ [⟨n.epoch, p⟩]) = false from h2']; decide)]; rfl
    · have h2' := not_f h2
      refine aW ?_
      all_goals refine aS (aR ?_)
      all_goals refine oC (op_ldm ty90_NodS rfl rfl rfl) ?_
      all_goals refine oC (oM rfl Conv.ol rfl) ?_
      all_goals refine oC (oLM (s := 43) (ol := []) (ol' := []) (pre := []) fb162 (.nil _) rfl (.cons rfl (Conv.of rfl) (.nil _)) (l12Vote_ct n _ hn (by simp [sN]; omega)) ols0 k0 k0 rfl argO0 (argOk' rfl rfl argO0) (fun o ho => absurd (show o ∈ ([] : List Nat) from ho) (by simp)) (fun o ho => absurd (show o ∈ ([] : List Nat) from ho) (by simp)) rfl) ?_
      all_goals refine oC (op_extm rfl rfl rfl rfl) ?_
      all_goals refine oC (op_ext rfl rfl rfl) ?_
      all_goals refine oC (op_ext rfl rfl rfl) ?_
      all_goals refine oC (op_stm ty90_NodS rfl rfl rfl) ?_
      all_goals refine oC (op_st ty38 rfl rfl (Conv.of rfl) rfl) ?_
      all_goals refine oC (oA rfl (Conv.of rfl) rfl) ?_
      all_goals refine oN ?_
      refine aT ?_
      repeat first | refine rS ?_ | refine rB ?_
      refine ⟨_, _, rNM (ol := []) (.cell ty90_NodS rfl rfl (.keep (.rc ty38 rfl rfl) (.keep (.v rfl (Conv.of rfl)) (.nil _)))) rfl (fun o ho => absurd (show o ∈ ([] : List Nat) from ho) (by simp)) oln noS, ?_, rfl⟩
      rw [proposeS, h, if_neg (by decide), if_pos (show chainOk (tipOfS n.seen ++ [⟨n.epoch, p⟩]) = true from h2')]
      show AV.tup _ = AV.tup _
      rfl
end Go.Proofs.YtmhmeppocbcmeaaGreat

/- The reference: new nodes; room for votes. -/
set_option linter.unusedVariables false
set_option linter.unusedSimpArgs false
namespace Go.Proofs.YtmhmeppocbcmeaaGreat
open Go Go.Wt
theorem sNodeNew_ct (i : Int) (hi : within i 1 4 = true) : CtP Tryz.prog 116 [.v i] (.tup [.v (NodC.mk i 0 0 ⟨[]⟩), .v true]) := by
  refine Ct.intro Tryz.func116 rfl rfl ?_
  refine aS (aR ?_)
  refine oC (oX (o := 0) z90_NodC rfl rfl) ?_
  refine oC (oA rfl (Conv.of rfl) rfl) ?_
  refine oN ?_
  refine aS (aS (aR ?_))
  refine oC (oM rfl (Conv.of rfl) rfl) ?_
  refine oC (oL fb50 (.cons rfl (Conv.of rfl) (.cons rfl (Conv.of rfl) (.cons rfl (Conv.of rfl) (.nil _)))) (l6In_ct _ _ _) (aK rfl rfl (aK rfl rfl (aK rfl rfl aK0))) rfl rfl) ?_
  refine oC (op_not rfl rfl) ?_
  refine oN ?_
  refine aC rfl (fun h => absurd (not_t h) (by rw [hi]; decide)) (fun h => ?_)
  refine aW ?_
  refine aS (aR ?_)
  refine oC (oM rfl (Conv.of rfl) rfl) ?_
  refine oC (op_bsc sl24 z38 (.nil _) rfl (by decide) rfl) ?_
  refine oC (op_build (.cons f90_0_NodC rfl (Conv.of rfl) (.cons f90_3_NodC rfl (Conv.of rfl) (.nil _))) z90_NodC rfl pl90 rfl) ?_
  refine oC (op_st ty90_NodC rfl rfl (Conv.of rfl) rfl) ?_
  refine oC (oA rfl (Conv.of rfl) rfl) ?_
  refine oN ?_
  refine aT ?_
  repeat first | refine rS ?_ | refine rB ?_
  exact finN (.cons (.rc ty90_NodC rfl rfl) (.cons (.v rfl (Conv.of rfl)) .nil)) rfl rfl rfl
theorem l21Send_ct (w : Wrld) (v : Vote) (ok : Bool) (ns : List NodS) (hl : Gd w.log) (hv : v.chain.length ≤ 1000000) : CtO Tryz.prog 118 [.v (sW w), .v v, .v ok] [(1, .arr ns)] (.v (sW (if ok then sendF w v else w))) [(1, .arr ns)] := by
  have hlen := hl.len
  unfold sW
  refine Ct.intro Tryz.func118 rfl rfl ?_
  all_goals refine aS (aR ?_)
  all_goals refine oC (op_boxm (o := 5) ty26_WrldS rfl rfl rfl rfl) ?_
  all_goals refine oC (op_box (o := 6) ty38 rfl (Conv.of rfl) rfl rfl) ?_
  all_goals refine oC (oX (o := 7) z26_WrldS rfl rfl) ?_
  all_goals refine oN ?_
  refine aS (aST (s' := mkSt 26 [(3, .box 5 (IsLens.whole WrldS)), (4, .box 6 (IsLens.whole Vote)), (6, .box 7 (IsLens.whole WrldS)), (15, .v (ok && decide (w.log.length < 80)))] [(1, .arr ns), (5, .cell (sW w)), (6, .cell v), (7, .cell WrldS.zero)]) ?_ ?_)
  · all_goals refine aR ?_
    all_goals refine oC (oM rfl (Conv.of rfl) rfl) ?_
    all_goals refine oC (oM rfl (Conv.of rfl) rfl) ?_
    all_goals refine g_split (t := 10) rfl (fun h => ?_) (fun h => ?_)
    all_goals first | refine oC (gF rfl rfl rfl rfl rfl) ?_ | refine oC (gN rfl rfl rfl (oF f26_2_WrldS rfl rfl)) ?_
    all_goals first | refine oC (gF rfl rfl rfl rfl rfl) ?_ | refine oC (gN rfl rfl rfl (op_ldl ty24_OListVote rfl rfl rfl)) ?_
    all_goals first | refine oC (gF rfl rfl rfl rfl rfl) ?_ | refine oC (gN rfl rfl rfl (oE sl24 rfl rfl)) ?_
    all_goals first | refine oC (gF rfl rfl rfl rfl rfl) ?_ | refine oC (gN rfl rfl rfl (oLt rfl rfl rfl)) ?_
    all_goals refine oC (oQ rfl rfl rfl rfl) ?_
    all_goals refine oN ?_
    all_goals exact Le.mk rfl (tlb rfl rfl rfl (tlb rfl rfl rfl (tlb rfl rfl rfl (tle rfl (by (simp_all; try omega)) rfl tln)))) (olk rfl (by exact bN) (olk rfl (by exact obOkS rfl) (olk rfl (by exact bC) (olk rfl (by exact obOkS0) oln)))) (hU (a := [(1, .arr ns)]) rfl)
  refine aC rfl (fun h => ?_) (fun h => ?_)
  · all_goals refine aS (aR ?_)
    all_goals refine oC (oF f26_2_WrldS rfl rfl) ?_
    all_goals refine oC (op_ldm ty24_OListVote rfl rfl rfl) ?_
    all_goals refine oC (oD ty38 rfl rfl rfl) ?_
    all_goals refine oC (oLM (s := 18) (ol := []) (ol' := []) (pre := []) fb146 (.nil _) rfl (.cons rfl (Conv.of rfl) (.nil _)) (l3Add_ct w.log v hl.l' hv) ols0 k0 k0 rfl argO0 (argOk' rfl rfl argO0) (fun o ho => absurd (show o ∈ ([] : List Nat) from ho) (by simp)) (fun o ho => absurd (show o ∈ ([] : List Nat) from ho) (by simp)) rfl) ?_
    all_goals refine oC (op_mvo rfl rfl rfl rfl) ?_
    all_goals refine oC (op_extm rfl rfl rfl rfl) ?_
    all_goals refine oC (op_ext rfl rfl rfl) ?_
    all_goals refine oC (op_asl rfl rfl rfl rfl) ?_
    all_goals refine oC (oA rfl (Conv.of rfl) rfl) ?_
    all_goals refine oN ?_
    all_goals refine aR ?_
    all_goals refine oC (op_mvl rfl rfl rfl rfl) ?_
    all_goals refine oC (oF f26_2_WrldS rfl rfl) ?_
    all_goals refine oC (op_stm ty24_OListVote rfl rfl rfl) ?_
    all_goals refine oN ?_
    all_goals refine aS (aR ?_)
    all_goals refine oC (op_ldm ty26_WrldS rfl rfl rfl) ?_
    all_goals refine oC (op_stm ty26_WrldS rfl rfl rfl) ?_
    all_goals refine oN ?_
    refine aT ?_
    repeat first | refine rS ?_ | refine rB ?_
    refine ⟨_, _, res1C (ol := [(1, .arr ns)]) ty26_WrldS rfl rfl (fun o ho => ?_) (olk rfl bN oln) (hU rfl), ?_, rfl⟩
    · have : o = 1 := by simpa using (show o ∈ [1] from ho)
      subst this; rfl
    · simp only [Bool.and_eq_true, decide_eq_true_eq] at h
      obtain ⟨rfl, h2⟩ := h
      show AV.v (WrldS.mk w.epoch (.ref 1) ⟨if decide (v ∈ w.log) then w.log else w.log ++ [v], true⟩ w.bad) = _
      by_cases hm : v ∈ w.log <;> simp [sendF, hm, h2, sW]
  · refine aW ?_
    all_goals refine aS (aR ?_)
    all_goals refine oC (op_ldm ty26_WrldS rfl rfl rfl) ?_
    all_goals refine oC (op_stm ty26_WrldS rfl rfl rfl) ?_
    all_goals refine oN ?_
    refine aT ?_
    repeat first | refine rS ?_ | refine rB ?_
    refine ⟨_, _, res1C (ol := [(1, .arr ns)]) ty26_WrldS rfl rfl (fun o ho => ?_) (olk rfl bN oln) (hU rfl), ?_, rfl⟩
    · have : o = 1 := by simpa using (show o ∈ [1] from ho)
      subst this; rfl
    · show AV.v (sW w) = _
      cases ok with
      | false => rfl
      | true =>
        have h2 : ¬ w.log.length < 80 := by simpa using h
        simp [sendF, h2]
        rfl
end Go.Proofs.YtmhmeppocbcmeaaGreat

/- The reference: room for votes. -/
set_option linter.unusedVariables false
set_option linter.unusedSimpArgs false
namespace Go.Proofs.YtmhmeppocbcmeaaGreat
open Go Go.Wt
theorem l21Room_ct (w : Wrld) (ns : List NodS) : CtO Tryz.prog 133 [.v (fW w)] [(1, .arr ns)] (.v (decide (w.log.length < 80))) [(1, .arr ns)] := by
  unfold fW
  refine Ct.intro Tryz.func133 rfl rfl ?_
  refine aS (aR ?_)
  refine oC (op_box (o := 5) ty26_WrldS rfl (Conv.of rfl) rfl rfl) ?_
  refine oC (oA rfl (Conv.of rfl) rfl) ?_
  refine oN ?_
  refine aS (aR ?_)
  refine oC (oF f26_2_WrldS rfl rfl) ?_
  refine oC (op_ldl ty24_OListVote rfl rfl rfl) ?_
  refine oC (oE sl24 rfl rfl) ?_
  refine oC (oLt rfl rfl rfl) ?_
  refine oC (oA rfl (Conv.of rfl) rfl) ?_
  refine oN ?_
  refine aT ?_
  repeat first | refine rS ?_ | refine rB ?_
  refine finO1 [(1, .arr ns)] (.v rfl (Conv.of rfl)) (fun o ho => by cases ho) (olk rfl bN oln) (hK rfl) ?_
  show AV.v _ = AV.v _
  congr 1
  rw [decide_eq_decide]
  show (w.log.length : Int) < 80 ↔ _
  omega
end Go.Proofs.YtmhmeppocbcmeaaGreat

/- The reference: a new world. -/
set_option linter.unusedVariables false
set_option linter.unusedSimpArgs false
namespace Go.Proofs.YtmhmeppocbcmeaaGreat
open Go Go.Wt
def newC (i : Int) : NodC := ⟨i, 0, 0, ⟨[]⟩⟩
theorem sWorldNew_ct (bad : Int) (hb : within bad 0 4 = true) : Ct Tryz.prog 62 [.v bad] noObj (fun r1 h1 => r1 = .tup [.v (sW (newW bad)), .v true] ∧ h1 = obs [(1, .arr ([newC 1, newC 2, newC 3, newC 4] : List NodC))]) := by
  refine Ct.intro Tryz.func62 rfl rfl ?_
  refine aS (aR ?_)
  refine oC (oX (o := 5) z26_WrldS rfl rfl) ?_
  refine oC (oA rfl (Conv.of rfl) rfl) ?_
  refine oN ?_
  refine aS (aS (aR ?_))
  refine oC (oM rfl (Conv.of rfl) rfl) ?_
  refine oC (oL fb50 (.cons rfl (Conv.of rfl) (.cons rfl (Conv.of rfl) (.cons rfl (Conv.of rfl) (.nil _)))) (l6In_ct _ _ _) (aK rfl rfl (aK rfl rfl (aK rfl rfl aK0))) rfl rfl) ?_
  refine oC (op_not rfl rfl) ?_
  refine oN ?_
  refine aC rfl (fun h => absurd (not_t h) (by rw [hb]; decide)) (fun h => ?_)
  refine aW ?_
  refine aS (aR ?_)
  refine oC (oM rfl (Conv.of rfl) rfl) ?_
  refine oC (op_bsc sl24 z38 (.nil _) rfl (by decide) rfl) ?_
  refine oC (op_build (.cons f26_3_WrldS rfl (Conv.of rfl) (.cons f26_2_WrldS rfl (Conv.co) (.nil _))) z26_WrldS rfl pl26 rfl) ?_
  refine oC (oX (o := 0) z26_WrldS rfl rfl) ?_
  refine oC (op_stm ty26_WrldS rfl rfl rfl) ?_
  refine oN ?_
  refine aS (aS (aR ?_))
  refine oC (oA rfl (Conv.of rfl) rfl) ?_
  refine oN ?_
  refine aB ?_
  refine awp_loop' (fun n s => (n = 4 ∧ s = mkSt 31 [(2, .box 5 (IsLens.whole WrldS)), (4, .box 0 (IsLens.whole WrldS)), (5, .v (1 : Int))] [(0, .cell (WrldS.mk 0 .nil ⟨[], true⟩ bad)), (5, .cell WrldS.zero)]) ∨ (n = 3 ∧ s = mkSt 31 [(2, .box 5 (IsLens.whole WrldS)), (4, .box 0 (IsLens.whole WrldS)), (5, .v (2 : Int))] [(0, .cell (WrldS.mk 0 (.ref 11) ⟨[], true⟩ bad)), (5, .cell WrldS.zero), (11, .arr ([newC 1] : List NodC))]) ∨ (n = 2 ∧ s = mkSt 31 [(2, .box 5 (IsLens.whole WrldS)), (4, .box 0 (IsLens.whole WrldS)), (5, .v (3 : Int))] [(0, .cell (WrldS.mk 0 (.ref 12) ⟨[], true⟩ bad)), (5, .cell WrldS.zero), (12, .arr ([newC 1, newC 2] : List NodC))]) ∨ (n = 1 ∧ s = mkSt 31 [(2, .box 5 (IsLens.whole WrldS)), (4, .box 0 (IsLens.whole WrldS)), (5, .v (4 : Int))] [(0, .cell (WrldS.mk 0 (.ref 13) ⟨[], true⟩ bad)), (5, .cell WrldS.zero), (13, .arr ([newC 1, newC 2, newC 3] : List NodC))]) ∨ (n = 0 ∧ s = mkSt 31 [(2, .box 5 (IsLens.whole WrldS)), (4, .box 0 (IsLens.whole WrldS)), (5, .v (5 : Int))] [(0, .cell (WrldS.mk 0 (.ref 1) ⟨[], true⟩ bad)), (5, .cell WrldS.zero), (1, .arr ([newC 1, newC 2, newC 3, newC 4] : List NodC))])) 4 (.inl ⟨rfl, rfl⟩) (Le.mk rfl (tlb rfl rfl rfl (tlb rfl rfl rfl (tle rfl (rfl) rfl tln))) (olk rfl (by exact obOkS0) (olk rfl (by exact obOkS0) oln)) noS) ?_
  rintro n s (⟨rfl, rfl⟩|⟨rfl, rfl⟩|⟨rfl, rfl⟩|⟨rfl, rfl⟩|⟨rfl, rfl⟩)
  · refine aS (aS (aR ?_))
    refine oC (oM rfl (Conv.of rfl) rfl) ?_
    refine oC (op_leq rfl rfl rfl) ?_
    refine oN ?_
    refine aC rfl (fun h => ?_) (fun h => absurd h (by decide))
    refine aW ?_
    refine aS (aB ?_)
    refine aS (aR ?_)
    refine oC (oM rfl (Conv.of rfl) rfl) ?_
    refine oC (oL fb116 (.cons rfl (Conv.of rfl) (.nil _)) (sNodeNew_ct 1 rfl) (aK rfl rfl aK0) rfl rfl) ?_
    refine oC (oM rfl (Conv.of rfl) rfl) ?_
    refine oC (op_ext rfl rfl rfl) ?_
    refine oC (op_ext rfl rfl rfl) ?_
    refine oC (oX (o := 6) z90_NodC rfl rfl) ?_
    refine oC (op_st ty90_NodC rfl rfl (Conv.of rfl) rfl) ?_
    refine oC (oA rfl (Conv.of rfl) rfl) ?_
    refine oN ?_
    refine aR ?_
    refine oC (oF f26_1_WrldS rfl rfl) ?_
    refine oC (oD ty23_NRef rfl rfl rfl) ?_
    refine oC (oD ty90_NodC rfl rfl rfl) ?_
    refine oC (op_bsl sl23_NodC z90_NodC (.cons rfl (Conv.of rfl) (.nil _)) rfl (by decide) rfl) ?_
    refine oC (op_apN (o' := 11) sl23_NodC z90_NodC ul23 rfl rfl rfl (by simp) (by simp) (by simp) rfl) ?_
    refine oC (oF f26_1_WrldS rfl rfl) ?_
    refine oC (op_st ty23_NRef rfl rfl (Conv.of rfl) rfl) ?_
    refine oN ?_
    refine aR ?_
    refine oC (oM rfl (Conv.of rfl) rfl) ?_
    refine oC (oP rfl rfl rfl (by omega)) ?_
    refine oC (oA rfl (Conv.of rfl) rfl) ?_
    refine oN ?_
    repeat first | refine nS ?_ | refine nB ?_
    exact ⟨3, _, by decide, .inr (.inl ⟨rfl, rfl⟩), Le.mk rfl (tlb rfl rfl rfl (tlb rfl rfl rfl (tle rfl (rfl) rfl tln))) (olk rfl (by exact obOkS rfl) (olk rfl (by exact obOkS0) (olk rfl (by exact bA) oln))) noS⟩
  · refine aS (aS (aR ?_))
    refine oC (oM rfl (Conv.of rfl) rfl) ?_
    refine oC (op_leq rfl rfl rfl) ?_
    refine oN ?_
    refine aC rfl (fun h => ?_) (fun h => absurd h (by decide))
    refine aW ?_
    refine aS (aB ?_)
    refine aS (aR ?_)
    refine oC (oM rfl (Conv.of rfl) rfl) ?_
    refine oC (oL fb116 (.cons rfl (Conv.of rfl) (.nil _)) (sNodeNew_ct 2 rfl) (aK rfl rfl aK0) rfl rfl) ?_
    refine oC (oM rfl (Conv.of rfl) rfl) ?_
    refine oC (op_ext rfl rfl rfl) ?_
    refine oC (op_ext rfl rfl rfl) ?_
    refine oC (oX (o := 6) z90_NodC rfl rfl) ?_
    refine oC (op_st ty90_NodC rfl rfl (Conv.of rfl) rfl) ?_
    refine oC (oA rfl (Conv.of rfl) rfl) ?_
    refine oN ?_
    refine aR ?_
    refine oC (oF f26_1_WrldS rfl rfl) ?_
    refine oC (oD ty23_NRef rfl rfl rfl) ?_
    refine oC (oD ty90_NodC rfl rfl rfl) ?_
    refine oC (op_bsl sl23_NodC z90_NodC (.cons rfl (Conv.of rfl) (.nil _)) rfl (by decide) rfl) ?_
    refine oC (op_apA (o' := 12) sl23_NodC z90_NodC ul23 rfl rfl rfl rfl (by simp) (by simp) (by simp) rfl) ?_
    refine oC (oF f26_1_WrldS rfl rfl) ?_
    refine oC (op_st ty23_NRef rfl rfl (Conv.of rfl) rfl) ?_
    refine oN ?_
    refine aR ?_
    refine oC (oM rfl (Conv.of rfl) rfl) ?_
    refine oC (oP rfl rfl rfl (by omega)) ?_
    refine oC (oA rfl (Conv.of rfl) rfl) ?_
    refine oN ?_
    repeat first | refine nS ?_ | refine nB ?_
    exact ⟨2, _, by decide, .inr (.inr (.inl ⟨rfl, rfl⟩)), Le.mk rfl (tlb rfl rfl rfl (tlb rfl rfl rfl (tle rfl (rfl) rfl tln))) (olk rfl (by exact obOkS rfl) (olk rfl (by exact obOkS0) (olk rfl (by exact bA) oln))) noS⟩
  · refine aS (aS (aR ?_))
    refine oC (oM rfl (Conv.of rfl) rfl) ?_
    refine oC (op_leq rfl rfl rfl) ?_
    refine oN ?_
    refine aC rfl (fun h => ?_) (fun h => absurd h (by decide))
    refine aW ?_
    refine aS (aB ?_)
    refine aS (aR ?_)
    refine oC (oM rfl (Conv.of rfl) rfl) ?_
    refine oC (oL fb116 (.cons rfl (Conv.of rfl) (.nil _)) (sNodeNew_ct 3 rfl) (aK rfl rfl aK0) rfl rfl) ?_
    refine oC (oM rfl (Conv.of rfl) rfl) ?_
    refine oC (op_ext rfl rfl rfl) ?_
    refine oC (op_ext rfl rfl rfl) ?_
    refine oC (oX (o := 6) z90_NodC rfl rfl) ?_
    refine oC (op_st ty90_NodC rfl rfl (Conv.of rfl) rfl) ?_
    refine oC (oA rfl (Conv.of rfl) rfl) ?_
    refine oN ?_
    refine aR ?_
    refine oC (oF f26_1_WrldS rfl rfl) ?_
    refine oC (oD ty23_NRef rfl rfl rfl) ?_
    refine oC (oD ty90_NodC rfl rfl rfl) ?_
    refine oC (op_bsl sl23_NodC z90_NodC (.cons rfl (Conv.of rfl) (.nil _)) rfl (by decide) rfl) ?_
    refine oC (op_apA (o' := 13) sl23_NodC z90_NodC ul23 rfl rfl rfl rfl (by simp) (by simp) (by simp) rfl) ?_
    refine oC (oF f26_1_WrldS rfl rfl) ?_
    refine oC (op_st ty23_NRef rfl rfl (Conv.of rfl) rfl) ?_
    refine oN ?_
    refine aR ?_
    refine oC (oM rfl (Conv.of rfl) rfl) ?_
    refine oC (oP rfl rfl rfl (by omega)) ?_
    refine oC (oA rfl (Conv.of rfl) rfl) ?_
    refine oN ?_
    repeat first | refine nS ?_ | refine nB ?_
    exact ⟨1, _, by decide, .inr (.inr (.inr (.inl ⟨rfl, rfl⟩))), Le.mk rfl (tlb rfl rfl rfl (tlb rfl rfl rfl (tle rfl (rfl) rfl tln))) (olk rfl (by exact obOkS rfl) (olk rfl (by exact obOkS0) (olk rfl (by exact bA) oln))) noS⟩
  · refine aS (aS (aR ?_))
    refine oC (oM rfl (Conv.of rfl) rfl) ?_
    refine oC (op_leq rfl rfl rfl) ?_
    refine oN ?_
    refine aC rfl (fun h => ?_) (fun h => absurd h (by decide))
    refine aW ?_
    refine aS (aB ?_)
    refine aS (aR ?_)
    refine oC (oM rfl (Conv.of rfl) rfl) ?_
    refine oC (oL fb116 (.cons rfl (Conv.of rfl) (.nil _)) (sNodeNew_ct 4 rfl) (aK rfl rfl aK0) rfl rfl) ?_
    refine oC (oM rfl (Conv.of rfl) rfl) ?_
    refine oC (op_ext rfl rfl rfl) ?_
    refine oC (op_ext rfl rfl rfl) ?_
    refine oC (oX (o := 6) z90_NodC rfl rfl) ?_
    refine oC (op_st ty90_NodC rfl rfl (Conv.of rfl) rfl) ?_
    refine oC (oA rfl (Conv.of rfl) rfl) ?_
    refine oN ?_
    refine aR ?_
    refine oC (oF f26_1_WrldS rfl rfl) ?_
    refine oC (oD ty23_NRef rfl rfl rfl) ?_
    refine oC (oD ty90_NodC rfl rfl rfl) ?_
    refine oC (op_bsl sl23_NodC z90_NodC (.cons rfl (Conv.of rfl) (.nil _)) rfl (by decide) rfl) ?_
    refine oC (op_apA (o' := 1) sl23_NodC z90_NodC ul23 rfl rfl rfl rfl (by simp) (by simp) (by simp) rfl) ?_
    refine oC (oF f26_1_WrldS rfl rfl) ?_
    refine oC (op_st ty23_NRef rfl rfl (Conv.of rfl) rfl) ?_
    refine oN ?_
    refine aR ?_
    refine oC (oM rfl (Conv.of rfl) rfl) ?_
    refine oC (oP rfl rfl rfl (by omega)) ?_
    refine oC (oA rfl (Conv.of rfl) rfl) ?_
    refine oN ?_
    repeat first | refine nS ?_ | refine nB ?_
    exact ⟨0, _, by decide, .inr (.inr (.inr (.inr (⟨rfl, rfl⟩)))), Le.mk rfl (tlb rfl rfl rfl (tlb rfl rfl rfl (tle rfl (rfl) rfl tln))) (olk rfl (by exact obOkS rfl) (olk rfl (by exact obOkS0) (olk rfl (by exact bA) oln))) noS⟩
  · refine aS (aS (aR ?_))
    refine oC (oM rfl (Conv.of rfl) rfl) ?_
    refine oC (op_leq rfl rfl rfl) ?_
    refine oN ?_
    refine aC rfl (fun h => absurd h (by decide)) (fun h => ?_)
    refine aE ?_
    repeat refine ex_seq ?_
    refine eB ?_
    refine aS (aR ?_)
    refine oC (op_ldm ty26_WrldS rfl rfl rfl) ?_
    refine oC (op_stm ty26_WrldS rfl rfl rfl) ?_
    refine oC (oA rfl (Conv.of rfl) rfl) ?_
    refine oN ?_
    refine aT ?_
    repeat first | refine rS ?_ | refine rB ?_
    refine ⟨_, _, rNM (ol := [(1, .arr ([newC 1, newC 2, newC 3, newC 4] : List NodC))]) (.cell ty26_WrldS rfl rfl (.keep (.v rfl (Conv.of rfl)) (.nil _))) rfl (fun o ho => ?_) (olk rfl bA oln) noS, rfl, rfl⟩
    have : o = 1 := by simpa using (show o ∈ [1] from ho)
    subst this; rfl
end Go.Proofs.YtmhmeppocbcmeaaGreat

/- The reference: a node hears. -/
set_option linter.unusedVariables false
set_option linter.unusedSimpArgs false
namespace Go.Proofs.YtmhmeppocbcmeaaGreat
open Go Go.Wt
set_option maxHeartbeats 2000000 in
theorem l12Try_ct (n : Nod) (hn : Gd n.seen) (he : 0 ≤ n.epoch ∧ n.epoch ≤ 30) : CtP Tryz.prog 170 [.v (sN n)] (res3S (tryAllS n)) := by
  have htip := hn.tipS
  have hlen := hn.len
  refine Ct.intro Tryz.func170 rfl rfl ?_
  all_goals refine aS (aR ?_)
  all_goals refine oC (op_boxm (o := 0) ty90_NodS rfl rfl rfl rfl) ?_
  all_goals refine oC (oX (o := 1) z90_NodS rfl rfl) ?_
  all_goals refine oC (oX (o := 2) z38 rfl rfl) ?_
  all_goals refine oC (oA rfl (Conv.of rfl) rfl) ?_
  all_goals refine oN ?_
  refine aS (aST (s' := mkSt 51 [(1, .box 0 (IsLens.whole NodS)), (2, .box 1 (IsLens.whole NodS)), (3, .box 2 (IsLens.whole Vote)), (4, .v false), (16, .v (decide (n.epoch = 0) || decide (n.voted = n.epoch)))] [(0, .cell (sN n)), (1, .cell NodS.zero), (2, .cell Vote.zero)]) ?_ ?_)
  · all_goals refine aR ?_
    all_goals refine oC (oF f90_1_NodS rfl rfl) ?_
    all_goals refine oC (oD ty3 rfl rfl rfl) ?_
    all_goals refine oC (op_eql rfl rfl rfl) ?_
    all_goals refine oC (oM rfl (Conv.of rfl) rfl) ?_
    all_goals refine g_split (t := 10) rfl (fun h => ?_) (fun h => ?_)
    all_goals first | refine oC (gF rfl rfl rfl rfl rfl) ?_ | refine oC (gN rfl rfl rfl (oF f90_2_NodS rfl rfl)) ?_
    all_goals first | refine oC (gF rfl rfl rfl rfl rfl) ?_ | refine oC (gN rfl rfl rfl (oD ty3 rfl rfl rfl)) ?_
    all_goals first | refine oC (gF rfl rfl rfl rfl rfl) ?_ | refine oC (gN rfl rfl rfl (oF f90_1_NodS rfl rfl)) ?_
    all_goals first | refine oC (gF rfl rfl rfl rfl rfl) ?_ | refine oC (gN rfl rfl rfl (oD ty3 rfl rfl rfl)) ?_
    all_goals first | refine oC (gF rfl rfl rfl rfl rfl) ?_ | refine oC (gN rfl rfl rfl (op_eql rfl rfl rfl)) ?_
    all_goals refine oC (oQ rfl rfl rfl rfl) ?_
    all_goals refine oN ?_
    all_goals exact Le.mk rfl (tlb rfl rfl rfl (tlb rfl rfl rfl (tlb rfl rfl rfl (tle rfl (rfl) rfl (tle rfl (by (clear htip; simp_all [sN]; try (rw [Bool.eq_iff_iff]; simp))) rfl tln))))) (olk rfl (by exact obOkN) (olk rfl (by exact obOkN) (olk rfl (by exact bC) oln))) noS
  refine aC rfl (fun h => ?_) (fun h => ?_)
  · all_goals refine aS (aR ?_)
    all_goals refine oC (op_ldm ty90_NodS rfl rfl rfl) ?_
    all_goals refine oC (op_build (.nil _) z38 rfl pl38 rfl) ?_
    all_goals refine oC (op_stm ty90_NodS rfl rfl rfl) ?_
    all_goals refine oC (op_st ty38 rfl rfl (Conv.of rfl) rfl) ?_
    all_goals refine oC (oA rfl (Conv.of rfl) rfl) ?_
    all_goals refine oN ?_
    refine aT ?_
    repeat first | refine rS ?_ | refine rB ?_
    refine ⟨_, _, rNM (ol := []) (.cell ty90_NodS rfl rfl (.keep (.rc ty38 rfl rfl) (.keep (.v rfl (Conv.of rfl)) (.nil _)))) rfl (fun o ho => absurd (show o ∈ ([] : List Nat) from ho) (by simp)) oln noS, ?_, rfl⟩
    rw [tryAllS, h, if_pos rfl]; rfl
  · have hres : tryAllS n = tryS n (tipOfS n.seen).length n.seen := by rw [tryAllS, h]; rfl
    refine aW ?_
    all_goals refine aS (aR ?_)
    all_goals refine oC (oF f90_3_NodS rfl rfl) ?_
    all_goals refine oC (op_ldl ty24_OListVote rfl rfl rfl) ?_
    all_goals refine oC (oL fb161 (.cons rfl (Conv.of rfl) (.nil _)) (l11Tip_ct _ hn.l hn.v) (aK rfl rfl aK0) rfl rfl) ?_
    all_goals refine oC (oE sl27 rfl rfl) ?_
    all_goals refine oC (oA rfl (Conv.of rfl) rfl) ?_
    all_goals refine oN ?_
    all_goals refine aS (aS (aR ?_))
    all_goals refine oC (oA rfl (Conv.of rfl) rfl) ?_
    all_goals refine oN ?_
    refine aB ?_
    refine awp_loop' (fun n_ s => ∃ (k : Nat), ∃ (hk : n_ + k = n.seen.length), ∃ (hall : tryS n (tipOfS n.seen).length (n.seen.drop k) = tryAllS n), s = mkSt 51 [(1, .box 0 (IsLens.whole NodS)), (2, .box 1 (IsLens.whole NodS)), (3, .box 2 (IsLens.whole Vote)), (5, .v ((tipOfS n.seen).length : Int)), (6, .v (k : Int))] [(0, .cell (sN n)), (1, .cell NodS.zero), (2, .cell Vote.zero)]) (n.seen.length) ⟨0, by omega, by rw [hres]; rfl, rfl⟩ (Le.mk rfl (tlb rfl rfl rfl (tlb rfl rfl rfl (tlb rfl rfl rfl (tle rfl (rfl) rfl (tle rfl (rfl) rfl tln))))) (olk rfl (by exact obOkN) (olk rfl (by exact obOkN) (olk rfl (by exact bC) oln))) noS) ?_
    rintro n_ s ⟨k, hk, hall, rfl⟩
    all_goals refine aS (aS (aR ?_))
    all_goals refine oC (oM rfl (Conv.of rfl) rfl) ?_
    all_goals refine oC (oF f90_3_NodS rfl rfl) ?_
    all_goals refine oC (op_ldl ty24_OListVote rfl rfl rfl) ?_
    all_goals refine oC (oE sl24 rfl rfl) ?_
    all_goals refine oC (oLt rfl rfl rfl) ?_
    all_goals refine oN ?_
    refine aC rfl (fun h2 => ?_) (fun h2 => ?_)
    · have hlt : k < n.seen.length := by simpa [sN] using h2
      have hx : n.seen[k]? = some n.seen[k] := List.getElem?_eq_getElem hlt
      have hx' : (sN n).seen.l[(k : Int).toNat]? = some n.seen[k] := hx
      have huo := hn.ok _ (List.getElem_mem hlt)
      have hup := voteOk_pos huo
      have hstep := tryS_drop n (tipOfS n.seen).length hx
      refine aW ?_
      refine aS (aB ?_)
      all_goals refine aS (dS ?_)
      all_goals refine dC (op_ldd ty90_NodS rfl rfl rfl) ?_
      all_goals refine dC (oF f90_3_NodS rfl rfl) ?_
      all_goals refine dC (op_ldl ty24_OListVote rfl rfl rfl) ?_
      all_goals refine dC (oM rfl (Conv.of rfl) rfl) ?_
      all_goals refine dC (op_ix sl24 rfl rfl rfl (by omega) hx') ?_
      all_goals refine dC (oDR ty38 rfl rfl) ?_
      all_goals refine dC (oM rfl (Conv.of rfl) rfl) ?_
      all_goals refine dC (oL fb176 (.cons rfl (Conv.of rfl) (.cons rfl (Conv.of rfl) (.cons rfl (Conv.of rfl) (.nil _)))) (l12Fits_ct n n.seen[k] (tipOfS n.seen).length hup he) (aK rfl rfl (aK rfl rfl (aK rfl rfl aK0))) rfl rfl) ?_
      all_goals refine dr_nil mixed rfl ?_
      refine aC rfl (fun h3 => ?_) (fun h3 => ?_)
      · refine aS ?_
        refine awp_park (s := 37) (o := 0) (tb := 1) rfl rfl rfl (fun hv => ?_)
        refine dg_start 8 ?_
        all_goals refine dg_cons (oD ty90_NodH rfl rfl rfl) ?_
        all_goals refine dg_cons (oF f90_3_NodH rfl rfl) ?_
        all_goals refine dg_cons (oD ty24_HListVote rfl rfl rfl) ?_
        all_goals refine dg_cons (oM rfl (Conv.of rfl) rfl) ?_
        all_goals refine dg_cons (op_ix sl24 rfl rfl rfl (by omega) hx') ?_
        all_goals refine dg_cons (oFR f38_1 rfl rfl) ?_
        all_goals refine dg_cons (oDR ty27 rfl rfl) ?_
        refine dg_cons (op_callP (r := 37) rfl fb162 rfl rfl (.cons rfl (Conv.of rfl) (.nil _)) (l12Vote_ct n _ hn (voteOk_len huo)) (aK rfl rfl aK0) rfl rfl) ?_
        refine dg_bar (fun hv' => _) mixed rfl rfl (parkT (t := 45) (r := 37) rfl rfl rfl) (fun hv' => ?_)
        all_goals refine dg_cons (op_ext rfl rfl rfl) ?_
        all_goals refine dg_cons (op_ext rfl rfl rfl) ?_
        all_goals refine dg_cons (op_ext rfl rfl rfl) ?_
        refine dg_cons (op_stP (s := 46) (r := 37) rfl ty90_NodS rfl rfl rfl rfl) ?_
        all_goals refine dg_cons (op_st ty38 rfl rfl (Conv.of rfl) rfl) ?_
        all_goals refine dg_cons (oA rfl (Conv.of rfl) rfl) ?_
        refine dg_nil rfl ?_
        refine aT ?_
        repeat first | refine rS ?_ | refine rB ?_
        refine ⟨_, _, rNM (ol := []) (.cell ty90_NodS rfl rfl (.keep (.rc ty38 rfl rfl) (.keep (.v rfl (Conv.of rfl)) (.nil _)))) rfl (fun o ho => absurd (show o ∈ ([] : List Nat) from ho) (by simp)) oln noS, ?_, rfl⟩
        rw [← hall, hstep, if_pos h3]; rfl
      · refine aW ?_
        all_goals refine aR ?_
        all_goals refine oC (oM rfl (Conv.of rfl) rfl) ?_
        all_goals refine oC (oP rfl rfl rfl (by omega)) ?_
        all_goals refine oC (oA rfl (Conv.of rfl) rfl) ?_
        all_goals refine oN ?_
        repeat first | refine nS ?_ | refine nB ?_
        exact ⟨n_ - 1, _, by omega, ⟨k + 1, by omega, by rw [← hall, hstep, if_neg (by rw [h3]; decide)], rfl⟩, Le.mk rfl (tlb rfl rfl rfl (tlb rfl rfl rfl (tlb rfl rfl rfl (tle rfl (rfl) rfl (tle rfl (rfl) rfl tln))))) (olk rfl (by exact obOkN) (olk rfl (by exact obOkN) (olk rfl (by exact bC) oln))) noS⟩
    · refine aE ?_
      repeat refine ex_seq ?_
      refine eB ?_
      have hk : n.seen.length ≤ k := by simpa [sN] using h2
      all_goals refine aS (aR ?_)
      all_goals refine oC (op_ldm ty90_NodS rfl rfl rfl) ?_
      all_goals refine oC (op_build (.nil _) z38 rfl pl38 rfl) ?_
      all_goals refine oC (op_stm ty90_NodS rfl rfl rfl) ?_
      all_goals refine oC (op_st ty38 rfl rfl (Conv.of rfl) rfl) ?_
      all_goals refine oC (oA rfl (Conv.of rfl) rfl) ?_
      all_goals refine oN ?_
      refine aT ?_
      repeat first | refine rS ?_ | refine rB ?_
      refine ⟨_, _, rNM (ol := []) (.cell ty90_NodS rfl rfl (.keep (.rc ty38 rfl rfl) (.keep (.v rfl (Conv.of rfl)) (.nil _)))) rfl (fun o ho => absurd (show o ∈ ([] : List Nat) from ho) (by simp)) oln noS, ?_, rfl⟩
      rw [← hall, drop_end hk]; rfl
theorem l12Hear_ct (n : Nod) (v : Vote) (hn : Gd n.seen) (he : 0 ≤ n.epoch ∧ n.epoch ≤ 30) (hv : v.chain.length ≤ 1000000) : CtP Tryz.prog 153 [.v (sN n), .v v] (res3S (hearS n v)) := by
  refine Ct.intro Tryz.func153 rfl rfl ?_
  all_goals refine aS (aR ?_)
  all_goals refine oC (op_boxm (o := 0) ty90_NodS rfl rfl rfl rfl) ?_
  all_goals refine oC (op_box (o := 1) ty38 rfl (Conv.of rfl) rfl rfl) ?_
  all_goals refine oC (oX (o := 2) z90_NodS rfl rfl) ?_
  all_goals refine oC (oX (o := 3) z38 rfl rfl) ?_
  all_goals refine oC (oA rfl (Conv.of rfl) rfl) ?_
  all_goals refine oN ?_
  refine aS (aST (s' := mkSt 41 [(2, .box 0 (IsLens.whole NodS)), (3, .box 1 (IsLens.whole Vote)), (4, .box 2 (IsLens.whole NodS)), (5, .box 3 (IsLens.whole Vote)), (6, .v false), (24, .v (!(voteOk v && !decide (v.by_ = n.id) && decide (n.seen.length < 80))))] [(0, .cell (sN n)), (1, .cell v), (2, .cell NodS.zero), (3, .cell Vote.zero)]) ?_ ?_)
  · all_goals refine aR ?_
    all_goals refine oC (oD ty38 rfl rfl rfl) ?_
    all_goals refine oC (oL fb108 (.cons rfl (Conv.of rfl) (.nil _)) (l3Vote_ct _) (aK rfl rfl aK0) rfl rfl) ?_
    all_goals refine oC (op_not rfl rfl) ?_
    all_goals refine oC (oM rfl (Conv.of rfl) rfl) ?_
    all_goals refine g_split (t := 12) rfl (fun h => ?_) (fun h => ?_)
    all_goals first | refine oC (gF rfl rfl rfl rfl rfl) ?_ | refine oC (gN rfl rfl rfl (oF f38_0 rfl rfl)) ?_
    all_goals first | refine oC (gF rfl rfl rfl rfl rfl) ?_ | refine oC (gN rfl rfl rfl (oD ty3 rfl rfl rfl)) ?_
    all_goals first | refine oC (gF rfl rfl rfl rfl rfl) ?_ | refine oC (gN rfl rfl rfl (oF f90_0_NodS rfl rfl)) ?_
    all_goals first | refine oC (gF rfl rfl rfl rfl rfl) ?_ | refine oC (gN rfl rfl rfl (oD ty3 rfl rfl rfl)) ?_
    all_goals first | refine oC (gF rfl rfl rfl rfl rfl) ?_ | refine oC (gN rfl rfl rfl (op_eql rfl rfl rfl)) ?_
    all_goals refine oC (oQ rfl rfl rfl rfl) ?_
    all_goals refine oC (oM rfl (Conv.of rfl) rfl) ?_
    all_goals first | refine g_lit (t := 19) (b := true) rfl ?_ | refine g_split (t := 19) rfl (fun h => ?_) (fun h => ?_)
    all_goals first | refine oC (gF rfl rfl rfl rfl rfl) ?_ | refine oC (gN rfl rfl rfl (oF f90_3_NodS rfl rfl)) ?_
    all_goals first | refine oC (gF rfl rfl rfl rfl rfl) ?_ | refine oC (gN rfl rfl rfl (op_ldl ty24_OListVote rfl rfl rfl)) ?_
    all_goals first | refine oC (gF rfl rfl rfl rfl rfl) ?_ | refine oC (gN rfl rfl rfl (oE sl24 rfl rfl)) ?_
    all_goals first | refine oC (gF rfl rfl rfl rfl rfl) ?_ | refine oC (gN rfl rfl rfl (op_geq rfl rfl rfl)) ?_
    all_goals refine oC (oQ rfl rfl rfl rfl) ?_
    all_goals refine oN ?_
    all_goals exact Le.mk rfl (tlb rfl rfl rfl (tlb rfl rfl rfl (tlb rfl rfl rfl (tlb rfl rfl rfl (tle rfl (rfl) rfl (tle rfl (by (simp_all [sN]; try (rw [Bool.eq_iff_iff]; simp; try omega); try (exact ⟨fun hh => by have := of_decide_eq_true hh; omega, fun hh => decide_eq_true (by omega)⟩))) rfl tln)))))) (olk rfl (by exact obOkN) (olk rfl (by exact bC) (olk rfl (by exact obOkN) (olk rfl (by exact bC) oln)))) noS
  refine aC rfl (fun h => ?_) (fun h => ?_)
  · all_goals refine aS (aR ?_)
    all_goals refine oC (op_ldm ty90_NodS rfl rfl rfl) ?_
    all_goals refine oC (op_build (.nil _) z38 rfl pl38 rfl) ?_
    all_goals refine oC (op_stm ty90_NodS rfl rfl rfl) ?_
    all_goals refine oC (op_st ty38 rfl rfl (Conv.of rfl) rfl) ?_
    all_goals refine oC (oA rfl (Conv.of rfl) rfl) ?_
    all_goals refine oN ?_
    refine aT ?_
    repeat first | refine rS ?_ | refine rB ?_
    refine ⟨_, _, rNM (ol := []) (.cell ty90_NodS rfl rfl (.keep (.rc ty38 rfl rfl) (.keep (.v rfl (Conv.of rfl)) (.nil _)))) rfl (fun o ho => absurd (show o ∈ ([] : List Nat) from ho) (by simp)) oln noS, ?_, rfl⟩
    rw [hearS, not_t h]; rfl
  · have h0 := not_f h
    have h0' := h0
    simp only [Bool.and_eq_true] at h0'
    have hvo : voteOk v = true := h0'.1.1
    have hlen : n.seen.length < 80 := by simpa using h0'.2
    have hgd := seeF_gd hn hvo hlen
    have hep : (seeF n v).epoch = n.epoch := by unfold seeF; split <;> rfl
    refine aW ?_
    all_goals refine aS (aR ?_)
    all_goals refine oC (oF f90_3_NodS rfl rfl) ?_
    all_goals refine oC (op_ldm ty24_OListVote rfl rfl rfl) ?_
    all_goals refine oC (oD ty38 rfl rfl rfl) ?_
    all_goals refine oC (oLM (s := 29) (ol := []) (ol' := []) (pre := []) fb146 (.nil _) rfl (.cons rfl (Conv.of rfl) (.nil _)) (l3Add_ct n.seen v hn.l' hv) ols0 k0 k0 rfl argO0 (argOk' rfl rfl argO0) (fun o ho => absurd (show o ∈ ([] : List Nat) from ho) (by simp)) (fun o ho => absurd (show o ∈ ([] : List Nat) from ho) (by simp)) rfl) ?_
    all_goals refine oC (op_mvo rfl rfl rfl rfl) ?_
    all_goals refine oC (op_extm rfl rfl rfl rfl) ?_
    all_goals refine oC (op_ext rfl rfl rfl) ?_
    all_goals refine oC (op_asl rfl rfl rfl rfl) ?_
    all_goals refine oC (oA rfl (Conv.of rfl) rfl) ?_
    all_goals refine oN ?_
    refine aST (s' := mkSt 41 [(2, .box 0 (IsLens.whole NodS)), (4, .box 2 (IsLens.whole NodS)), (5, .box 3 (IsLens.whole Vote))] [(0, .cell (sN (seeF n v))), (2, .cell NodS.zero), (3, .cell Vote.zero)]) ?_ ?_
    · all_goals refine aR ?_
      all_goals refine oC (op_mvl rfl rfl rfl rfl) ?_
      all_goals refine oC (oF f90_3_NodS rfl rfl) ?_
      all_goals refine oC (op_stm ty24_OListVote rfl rfl rfl) ?_
      all_goals refine oN ?_
      all_goals exact Le.mk rfl (tlb rfl rfl rfl (tlb rfl rfl rfl (tlb rfl rfl rfl tln))) (olk (by (by_cases hm : v ∈ n.seen <;> simp [seeF, sN, hm] <;> rfl)) (by exact obOkN) (olk rfl (by exact obOkN) (olk rfl (by exact bC) oln))) noS
    all_goals refine aS (aR ?_)
    all_goals refine oC (op_ldm ty90_NodS rfl rfl rfl) ?_
    all_goals refine oC (oLM (s := 36) (ol := []) (ol' := []) (pre := []) fb170 (.nil _) rfl (.nil _) (l12Try_ct (seeF n v) hgd (by rw [hep]; exact he)) ols0 k0 k0 rfl argO0 argO0 (fun o ho => absurd (show o ∈ ([] : List Nat) from ho) (by simp)) (fun o ho => absurd (show o ∈ ([] : List Nat) from ho) (by simp)) rfl) ?_
    all_goals refine oC (op_extm rfl rfl rfl rfl) ?_
    all_goals refine oC (op_ext rfl rfl rfl) ?_
    all_goals refine oC (op_ext rfl rfl rfl) ?_
    all_goals refine oC (op_stm ty90_NodS rfl rfl rfl) ?_
    all_goals refine oC (op_st ty38 rfl rfl (Conv.of rfl) rfl) ?_
    all_goals refine oC (oA rfl (Conv.of rfl) rfl) ?_
    all_goals refine oN ?_
    refine aT ?_
    repeat first | refine rS ?_ | refine rB ?_
    refine ⟨_, _, rNM (ol := []) (.cell ty90_NodS rfl rfl (.keep (.rc ty38 rfl rfl) (.keep (.v rfl (Conv.of rfl)) (.nil _)))) rfl (fun o ho => absurd (show o ∈ ([] : List Nat) from ho) (by simp)) oln noS, ?_, rfl⟩
    rw [hearS, h0, if_pos rfl]; rfl
end Go.Proofs.YtmhmeppocbcmeaaGreat

/- The reference: a node of a world proposes, or hears. -/
set_option linter.unusedVariables false
set_option linter.unusedSimpArgs false
namespace Go.Proofs.YtmhmeppocbcmeaaGreat
open Go Go.Wt
theorem l12Propose_w (n : Nod) (p : Pay) (h : nodeOk n = true) : CtP Tryz.prog 134 [.v (sN n), .v p] (res3S (proposeF n p)) := by
  obtain ⟨⟨h1, h2, h3, h4, h5⟩, h6⟩ := nodeOk_iff.1 h
  rw [← proposeS_eq p h5 h2]
  exact l12Propose_ct n p ⟨by omega, votesOk_mem h5⟩ h2
theorem l12Hear_w (n : Nod) (v : Vote) (h : nodeOk n = true) (hv : v.chain.length ≤ 1000000) : CtP Tryz.prog 153 [.v (sN n), .v v] (res3S (hearF n v)) := by
  obtain ⟨⟨h1, h2, h3, h4, h5⟩, h6⟩ := nodeOk_iff.1 h
  rw [← hearS_eq h5 h2]
  exact l12Hear_ct n v ⟨by omega, votesOk_mem h5⟩ h2 hv
abbrev so (w : Wrld) : List (Nat × Wt.Obj) := [(1, .arr (w.nodes.map sN))]
theorem sW_put (w : Wrld) (k : Nat) (x : Nod × Vote × Bool) : sW (if x.2.2 then sendF w x.2.1 else w) = sW (putF w k x) := by
  unfold putF
  cases x.2.2 with
  | false => rfl
  | true =>
    show sW (sendF w x.2.1) = sW (sendF _ x.2.1)
    unfold sendF
    simp only
    split <;> rfl
theorem put_nodes (w : Wrld) (k : Nat) (x : Nod × Vote × Bool) : (putF w k x).nodes = w.nodes.set k x.1 := by
  unfold putF
  split
  · unfold sendF; split <;> rfl
  · rfl
theorem set_sN (ns : List Nod) (k : Nat) (n : Nod) (y : NodS) : ((ns.map sN).set k y).set k (sN n) = (ns.set k n).map sN := by
  rw [List.set_set, List.map_set]
set_option maxHeartbeats 4000000 in
theorem l21Propose_ct (w : Wrld) (id : Int) (p : Pay) (hw : FineX w) : CtO Tryz.prog 79 [.v (sW w), .v id, .v p] (so w) (.v (sW (wproposeF w id p))) (so (wproposeF w id p)) := by
  have h4 := hw.four
  refine Ct.intro Tryz.func79 rfl rfl ?_
  all_goals refine aS (aR ?_)
  all_goals refine oC (op_boxm (o := 5) ty26_WrldS rfl rfl rfl rfl) ?_
  all_goals refine oC (op_box (o := 6) ty75 rfl (Conv.of rfl) rfl rfl) ?_
  all_goals refine oC (oX (o := 7) z26_WrldS rfl rfl) ?_
  all_goals refine oN ?_
  refine aS (aST (s' := mkSt 52 [(1, .v id), (3, .box 5 (IsLens.whole WrldS)), (5, .box 6 (IsLens.whole Pay)), (6, .box 7 (IsLens.whole WrldS)), (28, .v (!(within id 1 4 && !decide (id = w.bad) && payOk p && decide (w.log.length < 80))))] [(1, .arr (w.nodes.map sN)), (5, .cell (sW w)), (6, .cell p), (7, .cell WrldS.zero)]) ?_ ?_)
  · all_goals refine aR ?_
    all_goals refine oC (oM rfl (Conv.of rfl) rfl) ?_
    all_goals refine oC (oL fb50 (.cons rfl (Conv.of rfl) (.cons rfl (Conv.of rfl) (.cons rfl (Conv.of rfl) (.nil _)))) (l6In_ct _ _ _) (aK rfl rfl (aK rfl rfl (aK rfl rfl aK0))) rfl rfl) ?_
    all_goals refine oC (op_not rfl rfl) ?_
    all_goals refine oC (oM rfl (Conv.of rfl) rfl) ?_
    all_goals refine g_split (t := 13) rfl (fun h => ?_) (fun h => ?_)
    all_goals first | refine oC (gF rfl rfl rfl rfl rfl) ?_ | refine oC (gN rfl rfl rfl (oM rfl (Conv.of rfl) rfl)) ?_
    all_goals first | refine oC (gF rfl rfl rfl rfl rfl) ?_ | refine oC (gN rfl rfl rfl (oF f26_3_WrldS rfl rfl)) ?_
    all_goals first | refine oC (gF rfl rfl rfl rfl rfl) ?_ | refine oC (gN rfl rfl rfl (oD ty3 rfl rfl rfl)) ?_
    all_goals first | refine oC (gF rfl rfl rfl rfl rfl) ?_ | refine oC (gN rfl rfl rfl (op_eql rfl rfl rfl)) ?_
    all_goals refine oC (oQ rfl rfl rfl rfl) ?_
    all_goals refine oC (oM rfl (Conv.of rfl) rfl) ?_
    all_goals first | refine g_lit (t := 19) (b := true) rfl ?_ | refine g_split (t := 19) rfl (fun h => ?_) (fun h => ?_)
    all_goals first | refine oC (gF rfl rfl rfl rfl rfl) ?_ | refine oC (gN rfl rfl rfl (oD ty75 rfl rfl rfl)) ?_
    all_goals first | refine oC (gF rfl rfl rfl rfl rfl) ?_ | refine oC (gN rfl rfl rfl (oL fb132 (.cons rfl (Conv.of rfl) (.nil _)) (sPayOk_ct _) (aK rfl rfl aK0) rfl rfl)) ?_
    all_goals first | refine oC (gF rfl rfl rfl rfl rfl) ?_ | refine oC (gN rfl rfl rfl (op_not rfl rfl)) ?_
    all_goals refine oC (oQ rfl rfl rfl rfl) ?_
    all_goals refine oC (oM rfl (Conv.of rfl) rfl) ?_
    all_goals first | refine g_lit (t := 24) (b := true) rfl ?_ | refine g_split (t := 24) rfl (fun h => ?_) (fun h => ?_)
    all_goals first | refine oC (gF rfl rfl rfl rfl rfl) ?_ | refine oC (gN rfl rfl rfl (op_ldd ty26_WrldS rfl rfl rfl)) ?_
    all_goals first | refine oC (gF rfl rfl rfl rfl rfl) ?_ | refine oC (gN rfl rfl rfl (oLO fb133 (.cons rfl (Conv.of rfl) (.nil _)) (l21Room_ct w _) (olsk rfl ols0) (kK (by exact bN) k0) (kK (by exact bN) k0) rfl (argOb rfl rfl rfl argO0) (fun o ho => by cases ho) rfl)) ?_
    all_goals first | refine oC (gF rfl rfl rfl rfl rfl) ?_ | refine oC (gN rfl rfl rfl (op_not rfl rfl)) ?_
    all_goals refine oC (oQ rfl rfl rfl rfl) ?_
    all_goals refine oN ?_
    all_goals exact Le.mk rfl (tle rfl (rfl) rfl (tlb rfl rfl rfl (tlb rfl rfl rfl (tlb rfl rfl rfl (tle rfl (by (simp_all [sW]; try (rw [Bool.eq_iff_iff]; simp; try omega))) rfl tln))))) (olk rfl (by exact bN) (olk rfl (by exact obOkS rfl) (olk rfl (by exact bC) (olk rfl (by exact obOkS0) oln)))) (hU (a := so w) rfl)
  refine aC rfl (fun h => ?_) (fun h => ?_)
  · all_goals refine aS (aR ?_)
    all_goals refine oC (op_ldm ty26_WrldS rfl rfl rfl) ?_
    all_goals refine oC (op_stm ty26_WrldS rfl rfl rfl) ?_
    all_goals refine oN ?_
    refine aT ?_
    repeat first | refine rS ?_ | refine rB ?_
    refine ⟨_, _, res1C (ol := so w) ty26_WrldS rfl rfl (inOne rfl) (olk rfl bN oln) (hU rfl), ?_, ?_⟩
    · have h' := not_t h
      have e : wproposeF w id p = w := by
        unfold wproposeF honestB
        rw [if_neg]
        intro hh
        simp only [Bool.and_eq_true] at hh
        simp [hh.1.1.1, hh.1.1.2, hh.1.2, hh.2] at h'
      rw [e]
    · have h' := not_t h
      have e : wproposeF w id p = w := by
        unfold wproposeF honestB
        rw [if_neg]
        intro hh
        simp only [Bool.and_eq_true] at hh
        simp [hh.1.1.1, hh.1.1.2, hh.1.2, hh.2] at h'
      rw [e]
  · have h' := not_f h
    simp only [Bool.and_eq_true] at h'
    have hid : 1 ≤ id ∧ id ≤ 4 := by simpa [within] using h'.1.1.1
    have hlt : (id - 1).toNat < w.nodes.length := by omega
    have hx : w.nodes[(id - 1).toNat]? = some w.nodes[(id - 1).toNat] := List.getElem?_eq_getElem hlt
    have hno := hw.nodes _ (List.getElem_mem hlt)
    generalize hnn : w.nodes[(id - 1).toNat] = n at hx hno
    have hx' : (w.nodes.map sN)[(id - 1).toNat]? = some (sN n) := by rw [List.getElem?_map, hx]; rfl
    have hy : ∀ y : NodS, ((w.nodes.map sN).set (id - 1).toNat y)[(id - 1).toNat]? = some y := fun y => by
      rw [List.getElem?_set_self (by rw [List.length_map]; exact hlt)]
    have hln : ((w.nodes.map sN).length : Int) = 4 := by simp [h4]
    have hgd := hw.fine.seen n (List.mem_of_getElem? hx)
    have e : wproposeF w id p = putF w (id - 1).toNat (proposeF n p) := by
      unfold wproposeF honestB
      rw [if_pos (by simp only [h'.1.1.1, h'.1.1.2, h'.1.2, h'.2, Bool.and_self]), hx]
    rw [e]
    refine aW ?_
    all_goals refine aS (dS ?_)
    all_goals refine dC (oF f26_1_WrldS rfl rfl) ?_
    all_goals refine dC (oD ty23_NRef rfl rfl rfl) ?_
    all_goals refine dC (oM rfl (Conv.of rfl) rfl) ?_
    all_goals refine dC (op_sub rfl rfl rfl (by omega)) ?_
    all_goals refine dC (op_ixA sl23_NodS rfl rfl rfl rfl ⟨by omega, by omega⟩) ?_
    all_goals refine dC (op_ldme ty90_NodS rfl rfl hx' rfl) ?_
    all_goals refine dC (oD ty75 rfl rfl rfl) ?_
    all_goals refine dC (OpOk.emit (d := 38) (o' := 9) 28 (oLM (s := 36) (ol := []) (ol' := []) (pre := []) fb134 (.nil _) rfl (.cons rfl (Conv.of rfl) (.nil _)) (l12Propose_w n p hno) ols0 k0 k0 rfl argO0 (argOk' rfl rfl argO0) (fun o ho => absurd (show o ∈ ([] : List Nat) from ho) (by simp)) (fun o ho => absurd (show o ∈ ([] : List Nat) from ho) (by simp)) rfl) rfl rfl rfl rfl rfl) ?_
    all_goals refine dC (oM rfl (Conv.of rfl) rfl) ?_
    all_goals refine dC (op_ext rfl rfl rfl) ?_
    all_goals refine dC (op_ext rfl rfl rfl) ?_
    all_goals refine dC (op_ext rfl rfl rfl) ?_
    all_goals refine dC (oX (o := 10) z90_NodR rfl rfl) ?_
    all_goals refine dC (oX (o := 11) z38 rfl rfl) ?_
    all_goals refine dC (op_st ty90_NodR rfl rfl (Conv.of rfl) rfl) ?_
    all_goals refine dC (op_st ty38 rfl rfl (Conv.of rfl) rfl) ?_
    all_goals refine dC (oA rfl (Conv.of rfl) rfl) ?_
    all_goals refine dr_nil mixed rfl ?_
    all_goals refine aS (aR ?_)
    all_goals refine oC (oF f26_1_WrldS rfl rfl) ?_
    all_goals refine oC (oD ty23_NRef rfl rfl rfl) ?_
    all_goals refine oC (oM rfl (Conv.of rfl) rfl) ?_
    all_goals refine oC (op_sub rfl rfl rfl (by omega)) ?_
    all_goals refine oC (oD ty90_NodR rfl rfl rfl) ?_
    all_goals refine oC (op_ixA sl23_NodS rfl rfl rfl rfl ⟨by omega, by simp; omega⟩) ?_
    all_goals refine oC (op_steR 28 rfl ty90_NodS rfl rfl rfl rfl (hy _)) ?_
    all_goals refine oN ?_
    all_goals refine aS (aR ?_)
    all_goals refine oC (op_ldm ty26_WrldS rfl rfl rfl) ?_
    all_goals refine oC (oD ty38 rfl rfl rfl) ?_
    all_goals refine oC (oM rfl (Conv.of rfl) rfl) ?_
    all_goals refine oC (oLM (s := 48) (pre := []) fb118 (.nil _) rfl (.cons rfl (Conv.of rfl) (.cons rfl (Conv.of rfl) (.nil _))) (l21Send_ct w _ _ _ hw.fine.log (proposeF_len p hgd)) (olsk rfl ols0) (kK (by exact bN) k0) (kK (by exact bN) k0) rfl argO0 (argOk' rfl rfl (argOk' rfl rfl argO0)) (inOne rfl) (inOne rfl) rfl) ?_
    all_goals refine oC (op_stm ty26_WrldS rfl rfl rfl) ?_
    all_goals refine oN ?_
    refine aT ?_
    repeat first | refine rS ?_ | refine rB ?_
    refine ⟨_, _, res1C (ol := [(1, .arr _)]) ty26_WrldS rfl rfl (inOne rfl) (olk rfl bN oln) (hU rfl), ?_, ?_⟩
    · rw [← sW_put]; rfl
    · exact congrArg (fun z => obs [(1, Wt.Obj.arr z)]) (by rw [put_nodes]; exact set_sN _ _ _ _)
set_option maxHeartbeats 4000000 in
theorem l21Bring_ct (w : Wrld) (at_ id : Int) (hw : FineX w) : CtO Tryz.prog 117 [.v (sW w), .v at_, .v id] (so w) (.v (sW (wbringF w at_ id))) (so (wbringF w at_ id)) := by
  have h4 := hw.four
  have hlg := hw.fine.log.len
  have hidle : ∀ h' : (within at_ 0 ((w.log.length : Int) - 1) && within id 1 4 && !decide (id = w.bad) && decide (w.log.length < 80)) = false, wbringF w at_ id = w := fun h' => by
    unfold wbringF honestB
    rw [if_neg]
    intro hh
    simp only [Bool.and_eq_true] at hh
    simp [hh.1.1.1, hh.1.1.2, hh.1.2, hh.2] at h'
  refine Ct.intro Tryz.func117 rfl rfl ?_
  all_goals refine aS (aR ?_)
  all_goals refine oC (op_boxm (o := 5) ty26_WrldS rfl rfl rfl rfl) ?_
  all_goals refine oC (oX (o := 6) z26_WrldS rfl rfl) ?_
  all_goals refine oN ?_
  refine aS (aST (s' := mkSt 60 [(1, .v at_), (2, .v id), (3, .box 5 (IsLens.whole WrldS)), (6, .box 6 (IsLens.whole WrldS)), (32, .v (!(within at_ 0 ((w.log.length : Int) - 1) && within id 1 4 && !decide (id = w.bad) && decide (w.log.length < 80))))] [(1, .arr (w.nodes.map sN)), (5, .cell (sW w)), (6, .cell WrldS.zero)]) ?_ ?_)
  · all_goals refine aR ?_
    all_goals refine oC (oM rfl (Conv.of rfl) rfl) ?_
    all_goals refine oC (oF f26_2_WrldS rfl rfl) ?_
    all_goals refine oC (op_ldl ty24_OListVote rfl rfl rfl) ?_
    all_goals refine oC (oE sl24 rfl rfl) ?_
    all_goals refine oC (op_sub rfl rfl rfl (by (simp only [sW]; omega))) ?_
    all_goals refine oC (oL fb50 (.cons rfl (Conv.of rfl) (.cons rfl (Conv.of rfl) (.cons rfl (Conv.of rfl) (.nil _)))) (l6In_ct _ _ _) (aK rfl rfl (aK rfl rfl (aK rfl rfl aK0))) rfl rfl) ?_
    all_goals refine oC (op_not rfl rfl) ?_
    all_goals refine oC (oM rfl (Conv.of rfl) rfl) ?_
    all_goals refine g_split (t := 17) rfl (fun h => ?_) (fun h => ?_)
    all_goals first | refine oC (gF rfl rfl rfl rfl rfl) ?_ | refine oC (gN rfl rfl rfl (oM rfl (Conv.of rfl) rfl)) ?_
    all_goals first | refine oC (gF rfl rfl rfl rfl rfl) ?_ | refine oC (gN rfl rfl rfl (oL fb50 (.cons rfl (Conv.of rfl) (.cons rfl (Conv.of rfl) (.cons rfl (Conv.of rfl) (.nil _)))) (l6In_ct _ _ _) (aK rfl rfl (aK rfl rfl (aK rfl rfl aK0))) rfl rfl)) ?_
    all_goals first | refine oC (gF rfl rfl rfl rfl rfl) ?_ | refine oC (gN rfl rfl rfl (op_not rfl rfl)) ?_
    all_goals refine oC (oQ rfl rfl rfl rfl) ?_
    all_goals refine oC (oM rfl (Conv.of rfl) rfl) ?_
    all_goals first | refine g_lit (t := 22) (b := true) rfl ?_ | refine g_split (t := 22) rfl (fun h => ?_) (fun h => ?_)
    all_goals first | refine oC (gF rfl rfl rfl rfl rfl) ?_ | refine oC (gN rfl rfl rfl (oM rfl (Conv.of rfl) rfl)) ?_
    all_goals first | refine oC (gF rfl rfl rfl rfl rfl) ?_ | refine oC (gN rfl rfl rfl (oF f26_3_WrldS rfl rfl)) ?_
    all_goals first | refine oC (gF rfl rfl rfl rfl rfl) ?_ | refine oC (gN rfl rfl rfl (oD ty3 rfl rfl rfl)) ?_
    all_goals first | refine oC (gF rfl rfl rfl rfl rfl) ?_ | refine oC (gN rfl rfl rfl (op_eql rfl rfl rfl)) ?_
    all_goals refine oC (oQ rfl rfl rfl rfl) ?_
    all_goals refine oC (oM rfl (Conv.of rfl) rfl) ?_
    all_goals first | refine g_lit (t := 28) (b := true) rfl ?_ | refine g_split (t := 28) rfl (fun h => ?_) (fun h => ?_)
    all_goals first | refine oC (gF rfl rfl rfl rfl rfl) ?_ | refine oC (gN rfl rfl rfl (op_ldd ty26_WrldS rfl rfl rfl)) ?_
    all_goals first | refine oC (gF rfl rfl rfl rfl rfl) ?_ | refine oC (gN rfl rfl rfl (oLO fb133 (.cons rfl (Conv.of rfl) (.nil _)) (l21Room_ct w _) (olsk rfl ols0) (kK (by exact bN) k0) (kK (by exact bN) k0) rfl (argOb rfl rfl rfl argO0) (fun o ho => by cases ho) rfl)) ?_
    all_goals first | refine oC (gF rfl rfl rfl rfl rfl) ?_ | refine oC (gN rfl rfl rfl (op_not rfl rfl)) ?_
    all_goals refine oC (oQ rfl rfl rfl rfl) ?_
    all_goals refine oN ?_
    all_goals exact Le.mk rfl (tle rfl (rfl) rfl (tle rfl (rfl) rfl (tlb rfl rfl rfl (tlb rfl rfl rfl (tle rfl (by (simp_all [sW]; try (rw [Bool.eq_iff_iff]; simp; try omega))) rfl tln))))) (olk rfl (by exact bN) (olk rfl (by exact obOkS rfl) (olk rfl (by exact obOkS0) oln))) (hU (a := so w) rfl)
  refine aC rfl (fun h => ?_) (fun h => ?_)
  · all_goals refine aS (aR ?_)
    all_goals refine oC (op_ldm ty26_WrldS rfl rfl rfl) ?_
    all_goals refine oC (op_stm ty26_WrldS rfl rfl rfl) ?_
    all_goals refine oN ?_
    refine aT ?_
    repeat first | refine rS ?_ | refine rB ?_
    refine ⟨_, _, res1C (ol := so w) ty26_WrldS rfl rfl (inOne rfl) (olk rfl bN oln) (hU rfl), ?_, ?_⟩
    · rw [hidle (not_t h)]
    · rw [hidle (not_t h)]
  · have h' := not_f h
    simp only [Bool.and_eq_true] at h'
    have hid : 1 ≤ id ∧ id ≤ 4 := by simpa [within] using h'.1.1.2
    have hat : 0 ≤ at_ ∧ at_ ≤ (w.log.length : Int) - 1 := by simpa [within] using h'.1.1.1
    have hlt : (id - 1).toNat < w.nodes.length := by omega
    have hx : w.nodes[(id - 1).toNat]? = some w.nodes[(id - 1).toNat] := List.getElem?_eq_getElem hlt
    have hltv : at_.toNat < w.log.length := by omega
    have hv : w.log[at_.toNat]? = some w.log[at_.toNat] := List.getElem?_eq_getElem hltv
    have hno := hw.nodes _ (List.getElem_mem hlt)
    have hvl := hw.fine.log.v _ (List.getElem_mem hltv)
    generalize hnn : w.nodes[(id - 1).toNat] = n at hx hno
    generalize hvv : w.log[at_.toNat] = v at hv hvl
    have hv' : (sW w).log.l[at_.toNat]? = some v := hv
    have hx' : (w.nodes.map sN)[(id - 1).toNat]? = some (sN n) := by rw [List.getElem?_map, hx]; rfl
    have hy : ∀ y : NodS, ((w.nodes.map sN).set (id - 1).toNat y)[(id - 1).toNat]? = some y := fun y => by
      rw [List.getElem?_set_self (by rw [List.length_map]; exact hlt)]
    have hln : ((w.nodes.map sN).length : Int) = 4 := by simp [h4]
    have hgd := hw.fine.seen n (List.mem_of_getElem? hx)
    have e : wbringF w at_ id = putF w (id - 1).toNat (hearF n v) := by
      unfold wbringF honestB
      rw [if_pos (by simp only [h'.1.1.1, h'.1.1.2, h'.1.2, h'.2, Bool.and_self]), hx, hv]
    rw [e]
    refine aW ?_
    all_goals refine aS (dS ?_)
    all_goals refine dC (oF f26_1_WrldS rfl rfl) ?_
    all_goals refine dC (oD ty23_NRef rfl rfl rfl) ?_
    all_goals refine dC (oM rfl (Conv.of rfl) rfl) ?_
    all_goals refine dC (op_sub rfl rfl rfl (by omega)) ?_
    all_goals refine dC (op_ixA sl23_NodS rfl rfl rfl rfl ⟨by omega, by omega⟩) ?_
    all_goals refine dC (op_ldme ty90_NodS rfl rfl hx' rfl) ?_
    all_goals refine dC (oF f26_2_WrldS rfl rfl) ?_
    all_goals refine dC (op_ldl ty24_OListVote rfl rfl rfl) ?_
    all_goals refine dC (oM rfl (Conv.of rfl) rfl) ?_
    all_goals refine dC (op_ix sl24 rfl rfl rfl (by omega) hv') ?_
    all_goals refine dC (oDR ty38 rfl rfl) ?_
    all_goals refine dC (OpOk.emit (d := 46) (o' := 9) 32 (oLM (s := 40) (ol := []) (ol' := []) (pre := []) fb153 (.nil _) rfl (.cons rfl (Conv.of rfl) (.nil _)) (l12Hear_w n v hno hvl) ols0 k0 k0 rfl argO0 (argOk' rfl rfl argO0) (fun o ho => absurd (show o ∈ ([] : List Nat) from ho) (by simp)) (fun o ho => absurd (show o ∈ ([] : List Nat) from ho) (by simp)) rfl) rfl rfl rfl rfl rfl) ?_
    all_goals refine dC (oM rfl (Conv.of rfl) rfl) ?_
    all_goals refine dC (op_ext rfl rfl rfl) ?_
    all_goals refine dC (op_ext rfl rfl rfl) ?_
    all_goals refine dC (op_ext rfl rfl rfl) ?_
    all_goals refine dC (oX (o := 10) z90_NodR rfl rfl) ?_
    all_goals refine dC (oX (o := 11) z38 rfl rfl) ?_
    all_goals refine dC (op_st ty90_NodR rfl rfl (Conv.of rfl) rfl) ?_
    all_goals refine dC (op_st ty38 rfl rfl (Conv.of rfl) rfl) ?_
    all_goals refine dC (oA rfl (Conv.of rfl) rfl) ?_
    all_goals refine dr_nil mixed rfl ?_
    all_goals refine aS (aR ?_)
    all_goals refine oC (oF f26_1_WrldS rfl rfl) ?_
    all_goals refine oC (oD ty23_NRef rfl rfl rfl) ?_
    all_goals refine oC (oM rfl (Conv.of rfl) rfl) ?_
    all_goals refine oC (op_sub rfl rfl rfl (by omega)) ?_
    all_goals refine oC (oD ty90_NodR rfl rfl rfl) ?_
    all_goals refine oC (op_ixA sl23_NodS rfl rfl rfl rfl ⟨by omega, by simp; omega⟩) ?_
    all_goals refine oC (op_steR 32 rfl ty90_NodS rfl rfl rfl rfl (hy _)) ?_
    all_goals refine oN ?_
    all_goals refine aS (aR ?_)
    all_goals refine oC (op_ldm ty26_WrldS rfl rfl rfl) ?_
    all_goals refine oC (oD ty38 rfl rfl rfl) ?_
    all_goals refine oC (oM rfl (Conv.of rfl) rfl) ?_
    all_goals refine oC (oLM (s := 56) (pre := []) fb118 (.nil _) rfl (.cons rfl (Conv.of rfl) (.cons rfl (Conv.of rfl) (.nil _))) (l21Send_ct w _ _ _ hw.fine.log (hearF_len v hgd)) (olsk rfl ols0) (kK (by exact bN) k0) (kK (by exact bN) k0) rfl argO0 (argOk' rfl rfl (argOk' rfl rfl argO0)) (inOne rfl) (inOne rfl) rfl) ?_
    all_goals refine oC (op_stm ty26_WrldS rfl rfl rfl) ?_
    all_goals refine oN ?_
    refine aT ?_
    repeat first | refine rS ?_ | refine rB ?_
    refine ⟨_, _, res1C (ol := [(1, .arr _)]) ty26_WrldS rfl rfl (inOne rfl) (olk rfl bN oln) (hU rfl), ?_, ?_⟩
    · rw [← sW_put]; rfl
    · exact congrArg (fun z => obs [(1, Wt.Obj.arr z)]) (by rw [put_nodes]; exact set_sN _ _ _ _)
end Go.Proofs.YtmhmeppocbcmeaaGreat

/- The reference: what happens in a world; a play. -/
set_option linter.unusedVariables false
set_option linter.unusedSimpArgs false
namespace Go.Proofs.YtmhmeppocbcmeaaGreat
open Go Go.Wt
theorem send_nodes (w : Wrld) (v : Vote) : (sendF w v).nodes = w.nodes := by unfold sendF; split <;> rfl
set_option maxHeartbeats 1000000 in
theorem l21Tick_ct (w : Wrld) (hw : Fine w) : CtO Tryz.prog 78 [.v (sW w)] (so w) (.v (sW (tickF w))) (so (tickF w)) := by
  have hep := hw.ep
  have h4 := hw.four
  refine Ct.intro Tryz.func78 rfl rfl ?_
  refine aS (aR ?_)
  refine oC (op_boxm (o := 5) ty26_WrldS rfl rfl rfl rfl) ?_
  refine oC (oX (o := 6) z26_WrldS rfl rfl) ?_
  refine oN ?_
  refine aS (aR ?_)
  refine oC (oF f26_0_WrldS rfl rfl) ?_
  refine oC (oD ty3 rfl rfl rfl) ?_
  refine oC (oP rfl rfl rfl (by ((try simp only [sW]); omega))) ?_
  refine oC (op_min rfl rfl rfl) ?_
  refine oC (oF f26_0_WrldS rfl rfl) ?_
  refine oC (op_st ty3 rfl rfl (Conv.of rfl) rfl) ?_
  refine oN ?_
  refine aS (aS (aR ?_))
  refine oC (oA rfl (Conv.of rfl) rfl) ?_
  refine oN ?_
  refine aB ?_
  refine awp_loop' (fun n_ s => ∃ (k : Nat), ∃ (hn : n_ + k = 4), s = mkSt 29 [(1, .box 5 (IsLens.whole WrldS)), (2, .box 6 (IsLens.whole WrldS)), (3, .v (k : Int))] [(1, .arr (((w.nodes.take k).map (fun n => enterF n (min (w.epoch + 1) 30)) ++ w.nodes.drop k).map sN)), (5, .cell (sW (tickF w))), (6, .cell WrldS.zero)]) (4) ⟨0, by omega, rfl⟩ (Le.mk rfl (tlb rfl rfl rfl (tlb rfl rfl rfl (tle rfl (rfl) rfl tln))) (olk (by rfl) (by exact bN) (olk rfl (by exact obOkS rfl) (olk rfl (by exact obOkS0) oln))) (hU (a := so w) rfl)) ?_
  rintro n_ s ⟨k, hn, rfl⟩
  have hlen : (((w.nodes.take k).map (fun n => enterF n (min (w.epoch + 1) 30)) ++ w.nodes.drop k).map sN).length = 4 := by simp; omega
  refine aS (aS (aR ?_))
  refine oC (oM rfl (Conv.of rfl) rfl) ?_
  refine oC (oF f26_1_WrldS rfl rfl) ?_
  refine oC (oD ty23_NRef rfl rfl rfl) ?_
  refine oC (oEA sl23_NodS rfl rfl rfl) ?_
  refine oC (oLt rfl rfl rfl) ?_
  refine oN ?_
  refine aC rfl (fun h => ?_) (fun h => ?_)
  · have hlt : k < 4 := by rw [hlen] at h; simp at h; omega
    have hx : w.nodes[k]? = some w.nodes[k] := List.getElem?_eq_getElem (by omega)
    have hx' : (((w.nodes.take k).map (fun n => enterF n (min (w.epoch + 1) 30)) ++ w.nodes.drop k).map sN)[(k : Int).toNat]? = some (sN w.nodes[k]) := by
      rw [List.getElem?_map, List.getElem?_append_right (by simp; omega)]
      simp [Nat.min_eq_left (show k ≤ w.nodes.length by omega), hx]
    have hne := hw.nep _ (List.getElem_mem (show k < w.nodes.length by omega))
    have hy : ∀ y : NodS, ((((w.nodes.take k).map (fun n => enterF n (min (w.epoch + 1) 30)) ++ w.nodes.drop k).map sN).set (k : Int).toNat y)[(k : Int).toNat]? = some y := fun y => by
      rw [List.getElem?_set_self (by rw [hlen]; omega)]
    have hnext : ∀ y : NodS, ((((w.nodes.take k).map (fun n => enterF n (min (w.epoch + 1) 30)) ++ w.nodes.drop k).map sN).set (k : Int).toNat y).set (k : Int).toNat (sN (enterF w.nodes[k] (min (w.epoch + 1) 30))) = ((w.nodes.take (k + 1)).map (fun n => enterF n (min (w.epoch + 1) 30)) ++ w.nodes.drop (k + 1)).map sN := fun y => by
      rw [set_sN]
      exact congrArg _ (tick_step hx).symm
    refine aW ?_
    refine aS (aB ?_)
    refine dS ?_
    refine dC (oF f26_1_WrldS rfl rfl) ?_
    refine dC (oD ty23_NRef rfl rfl rfl) ?_
    refine dC (oM rfl (Conv.of rfl) rfl) ?_
    refine dC (oF f26_1_WrldS rfl rfl) ?_
    refine dC (oD ty23_NRef rfl rfl rfl) ?_
    refine dC (oM rfl (Conv.of rfl) rfl) ?_
    refine dC (op_ixA sl23_NodS rfl rfl rfl rfl ⟨by omega, by omega⟩) ?_
    refine dC (op_ldme ty90_NodS rfl rfl hx' rfl) ?_
    refine dC (oF f26_0_WrldS rfl rfl) ?_
    refine dC (oD ty3 rfl rfl rfl) ?_
    refine dC (oLM (s := 23) (ol := []) (ol' := []) (pre := []) fb131 (.nil _) rfl (.cons rfl (Conv.of rfl) (.nil _)) (l12Enter_ct _ _ hne) ols0 k0 k0 rfl argO0 (argOk' rfl rfl argO0) (fun o ho => absurd (show o ∈ ([] : List Nat) from ho) (by simp)) (fun o ho => absurd (show o ∈ ([] : List Nat) from ho) (by simp)) rfl) ?_
    refine dC (op_ixA sl23_NodS rfl rfl rfl rfl ⟨by omega, by rw [List.length_set]; omega⟩) ?_
    refine dC (op_stme ty90_NodS rfl rfl rfl (hy _)) ?_
    refine dr_nil mixed rfl ?_
    refine aR ?_
    refine oC (oM rfl (Conv.of rfl) rfl) ?_
    refine oC (oP rfl rfl rfl (by omega)) ?_
    refine oC (oA rfl (Conv.of rfl) rfl) ?_
    refine oN ?_
    repeat first | refine nS ?_ | refine nB ?_
    exact ⟨n_ - 1, _, by omega, ⟨k + 1, by omega, rfl⟩, Le.mk rfl (tlb rfl rfl rfl (tlb rfl rfl rfl (tle rfl (rfl) rfl tln))) (olk (by (exact congrArg Obj.arr (hnext _))) (by exact bN) (olk rfl (by exact obOkS rfl) (olk rfl (by exact obOkS0) oln))) (hU (a := so w) rfl)⟩
  · refine aE ?_
    repeat refine ex_seq ?_
    refine eB ?_
    have hk : k = 4 := by rw [hlen] at h; simp at h; omega
    subst hk
    refine aS (aR ?_)
    refine oC (op_ldm ty26_WrldS rfl rfl rfl) ?_
    refine oC (op_stm ty26_WrldS rfl rfl rfl) ?_
    refine oN ?_
    refine aT ?_
    repeat first | refine rS ?_ | refine rB ?_
    refine ⟨_, _, res1C (ol := [(1, .arr _)]) ty26_WrldS rfl rfl (inOne rfl) (olk rfl bN oln) (hU rfl), rfl, ?_⟩
    exact congrArg (fun z => obs [(1, Wt.Obj.arr z)]) (by rw [take_end (by omega), drop_end (by omega), List.append_nil]; rfl)
set_option maxHeartbeats 1000000 in
theorem l21Do_ct (w : Wrld) (e : Evt) (hw : FineX w) : CtO Tryz.prog 63 [.v (sW w), .v e] (so w) (.v (sW (doF w e))) (so (doF w e)) := by
  refine Ct.intro Tryz.func63 rfl rfl ?_
  all_goals refine aS (aR ?_)
  all_goals refine oC (op_boxm (o := 5) ty26_WrldS rfl rfl rfl rfl) ?_
  all_goals refine oC (op_box (o := 6) ty77 rfl (Conv.of rfl) rfl rfl) ?_
  all_goals refine oC (oX (o := 7) z26_WrldS rfl rfl) ?_
  all_goals refine oN ?_
  all_goals refine aS (aS (aR ?_))
  all_goals refine oC (oF f77_0 rfl rfl) ?_
  all_goals refine oC (oD ty3 rfl rfl rfl) ?_
  all_goals refine oN ?_
  refine aB ?_
  all_goals refine aS (aR ?_)
  all_goals refine oC (op_eql rfl rfl rfl) ?_
  all_goals refine oC (oA rfl (Conv.of rfl) rfl) ?_
  all_goals refine oN ?_
  refine aC rfl (fun h1 => ?_) (fun h1 => ?_)
  · have k1 : e.kind = 1 := by simpa using h1
    all_goals refine aS (aR ?_)
    all_goals refine oC (op_ldm ty26_WrldS rfl rfl rfl) ?_
    all_goals refine oC (oLM (s := 9) (pre := []) fb78 (.nil _) rfl (.nil _) (l21Tick_ct w hw.fine) (olsk rfl ols0) (kK (by exact bN) k0) (kK (by exact bN) k0) rfl argO0 argO0 (inOne rfl) (inOne rfl) rfl) ?_
    all_goals refine oC (op_stm ty26_WrldS rfl rfl rfl) ?_
    all_goals refine oN ?_
    refine aT ?_
    repeat first | refine rS ?_ | refine rB ?_
    refine ⟨_, _, res1C (ol := so (tickF w)) ty26_WrldS rfl rfl (inOne rfl) (olk rfl bN oln) (hU rfl), ?_, ?_⟩ <;> rw [doF, if_pos k1]
  · have k1 : ¬ e.kind = 1 := by simpa using h1
    all_goals refine aS (aR ?_)
    all_goals refine oC (op_eql rfl rfl rfl) ?_
    all_goals refine oC (oA rfl (Conv.of rfl) rfl) ?_
    all_goals refine oN ?_
    refine aC rfl (fun h2 => ?_) (fun h2 => ?_)
    · have k2 : e.kind = 2 := by simpa using h2
      all_goals refine aS (aR ?_)
      all_goals refine oC (op_ldm ty26_WrldS rfl rfl rfl) ?_
      all_goals refine oC (oF f77_1 rfl rfl) ?_
      all_goals refine oC (oD ty3 rfl rfl rfl) ?_
      all_goals refine oC (oF f77_3 rfl rfl) ?_
      all_goals refine oC (oD ty75 rfl rfl rfl) ?_
      all_goals refine oC (oLM (s := 13) (pre := []) fb79 (.nil _) rfl (.cons rfl (Conv.of rfl) (.cons rfl (Conv.of rfl) (.nil _))) (l21Propose_ct w _ _ hw) (olsk rfl ols0) (kK (by exact bN) k0) (kK (by exact bN) k0) rfl argO0 (argOk' rfl rfl (argOk' rfl rfl argO0)) (inOne rfl) (inOne rfl) rfl) ?_
      all_goals refine oC (op_stm ty26_WrldS rfl rfl rfl) ?_
      all_goals refine oN ?_
      refine aT ?_
      repeat first | refine rS ?_ | refine rB ?_
      refine ⟨_, _, res1C (ol := so (wproposeF w e.a e.pay)) ty26_WrldS rfl rfl (inOne rfl) (olk rfl bN oln) (hU rfl), ?_, ?_⟩ <;> rw [doF, if_neg k1, if_pos k2]
    · have k2 : ¬ e.kind = 2 := by simpa using h2
      all_goals refine aS (aR ?_)
      all_goals refine oC (op_eql rfl rfl rfl) ?_
      all_goals refine oC (oA rfl (Conv.of rfl) rfl) ?_
      all_goals refine oN ?_
      refine aC rfl (fun h3 => ?_) (fun h3 => ?_)
      · have k3 : e.kind = 3 := by simpa using h3
        all_goals refine aS (aR ?_)
        all_goals refine oC (op_ldm ty26_WrldS rfl rfl rfl) ?_
        all_goals refine oC (oF f77_1 rfl rfl) ?_
        all_goals refine oC (oD ty3 rfl rfl rfl) ?_
        all_goals refine oC (oF f77_2 rfl rfl) ?_
        all_goals refine oC (oD ty3 rfl rfl rfl) ?_
        all_goals refine oC (oLM (s := 21) (pre := []) fb117 (.nil _) rfl (.cons rfl (Conv.of rfl) (.cons rfl (Conv.of rfl) (.nil _))) (l21Bring_ct w _ _ hw) (olsk rfl ols0) (kK (by exact bN) k0) (kK (by exact bN) k0) rfl argO0 (argOk' rfl rfl (argOk' rfl rfl argO0)) (inOne rfl) (inOne rfl) rfl) ?_
        all_goals refine oC (op_stm ty26_WrldS rfl rfl rfl) ?_
        all_goals refine oN ?_
        refine aT ?_
        repeat first | refine rS ?_ | refine rB ?_
        refine ⟨_, _, res1C (ol := so (wbringF w e.a e.b)) ty26_WrldS rfl rfl (inOne rfl) (olk rfl bN oln) (hU rfl), ?_, ?_⟩ <;> rw [doF, if_neg k1, if_neg k2, if_pos k3]
      · have k3 : ¬ e.kind = 3 := by simpa using h3
        all_goals refine aS (aR ?_)
        all_goals refine oC (op_eql rfl rfl rfl) ?_
        all_goals refine oC (oA rfl (Conv.of rfl) rfl) ?_
        all_goals refine oN ?_
        refine aC rfl (fun h4 => ?_) (fun h4 => ?_)
        · have k4 : e.kind = 4 := by simpa using h4
          refine aST (s' := mkSt 45 [(2, .box 5 (IsLens.whole WrldS)), (3, .box 6 (IsLens.whole Evt)), (4, .box 7 (IsLens.whole WrldS)), (39, .v (voteOk e.vote && decide (e.vote.by_ = w.bad)))] [(1, .arr (w.nodes.map sN)), (5, .cell (sW w)), (6, .cell e), (7, .cell WrldS.zero)]) ?_ ?_
          · all_goals refine aR ?_
            all_goals refine oC (oF f77_4 rfl rfl) ?_
            all_goals refine oC (oD ty38 rfl rfl rfl) ?_
            all_goals refine oC (oL fb108 (.cons rfl (Conv.of rfl) (.nil _)) (l3Vote_ct _) (aK rfl rfl aK0) rfl rfl) ?_
            all_goals refine oC (oM rfl (Conv.of rfl) rfl) ?_
            all_goals refine g_split (t := 32) rfl (fun h => ?_) (fun h => ?_)
            all_goals first | refine oC (gF rfl rfl rfl rfl rfl) ?_ | refine oC (gN rfl rfl rfl (oF f77_4 rfl rfl)) ?_
            all_goals first | refine oC (gF rfl rfl rfl rfl rfl) ?_ | refine oC (gN rfl rfl rfl (oF f38_0 rfl rfl)) ?_
            all_goals first | refine oC (gF rfl rfl rfl rfl rfl) ?_ | refine oC (gN rfl rfl rfl (oD ty3 rfl rfl rfl)) ?_
            all_goals first | refine oC (gF rfl rfl rfl rfl rfl) ?_ | refine oC (gN rfl rfl rfl (oF f26_3_WrldS rfl rfl)) ?_
            all_goals first | refine oC (gF rfl rfl rfl rfl rfl) ?_ | refine oC (gN rfl rfl rfl (oD ty3 rfl rfl rfl)) ?_
            all_goals first | refine oC (gF rfl rfl rfl rfl rfl) ?_ | refine oC (gN rfl rfl rfl (op_eql rfl rfl rfl)) ?_
            all_goals refine oC (oQ rfl rfl rfl rfl) ?_
            all_goals refine oN ?_
            all_goals exact Le.mk rfl (tlb rfl rfl rfl (tlb rfl rfl rfl (tlb rfl rfl rfl (tle rfl (by (clear h1 h2 h3 h4; simp_all [sW]; try (rw [Bool.eq_iff_iff]; simp))) rfl tln)))) (olk rfl (by exact bN) (olk rfl (by exact obOkS rfl) (olk rfl (by exact bC) (olk rfl (by exact obOkS0) oln)))) (hU (a := so w) rfl)
          refine aC rfl (fun h5 => ?_) (fun h5 => ?_)
          · have hvo : voteOk e.vote = true := by simp only [Bool.and_eq_true] at h5; exact h5.1
            all_goals refine aS (aR ?_)
            all_goals refine oC (op_ldm ty26_WrldS rfl rfl rfl) ?_
            all_goals refine oC (oF f77_4 rfl rfl) ?_
            all_goals refine oC (oD ty38 rfl rfl rfl) ?_
            all_goals refine oC (oLM (s := 40) (pre := []) fb118 (.nil _) rfl (.cons rfl (Conv.of rfl) (.cons rfl (Conv.of rfl) (.nil _))) (l21Send_ct w _ true _ hw.fine.log (voteOk_len hvo)) (olsk rfl ols0) (kK (by exact bN) k0) (kK (by exact bN) k0) rfl argO0 (argOk' rfl rfl (argOk' rfl rfl argO0)) (inOne rfl) (inOne rfl) rfl) ?_
            all_goals refine oC (op_stm ty26_WrldS rfl rfl rfl) ?_
            all_goals refine oN ?_
            refine aT ?_
            repeat first | refine rS ?_ | refine rB ?_
            refine ⟨_, _, res1C (ol := so (sendF w e.vote)) ty26_WrldS rfl rfl (inOne rfl) (olk (congrArg (fun z : List Nod => Wt.Obj.arr (List.map sN z)) (send_nodes w e.vote).symm) bN oln) (hU rfl), ?_, ?_⟩ <;> rw [doF, if_neg k1, if_neg k2, if_neg k3, if_pos k4, h5, if_pos rfl]
          · refine aW ?_
            repeat first | refine nS ?_ | refine nB ?_
            all_goals refine aS (aR ?_)
            all_goals refine oC (op_ldm ty26_WrldS rfl rfl rfl) ?_
            all_goals refine oC (op_stm ty26_WrldS rfl rfl rfl) ?_
            all_goals refine oN ?_
            refine aT ?_
            repeat first | refine rS ?_ | refine rB ?_
            refine ⟨_, _, res1C (ol := so w) ty26_WrldS rfl rfl (inOne rfl) (olk rfl bN oln) (hU rfl), ?_, ?_⟩ <;> rw [doF, if_neg k1, if_neg k2, if_neg k3, if_pos k4, h5, if_neg (by decide)]
        · have k4 : ¬ e.kind = 4 := by simpa using h4
          refine aW ?_
          repeat first | refine nS ?_ | refine nB ?_
          all_goals refine aS (aR ?_)
          all_goals refine oC (op_ldm ty26_WrldS rfl rfl rfl) ?_
          all_goals refine oC (op_stm ty26_WrldS rfl rfl rfl) ?_
          all_goals refine oN ?_
          refine aT ?_
          repeat first | refine rS ?_ | refine rB ?_
          refine ⟨_, _, res1C (ol := so w) ty26_WrldS rfl rfl (inOne rfl) (olk rfl bN oln) (hU rfl), ?_, ?_⟩ <;> rw [doF, if_neg k1, if_neg k2, if_neg k3, if_neg k4]
theorem sWorldNew_w (bad : Int) (hb : within bad 0 4 = true) : Ct Tryz.prog 62 [.v bad] noObj (fun r1 h1 => r1 = .tup [.v (sW (newW bad)), .v true] ∧ h1 = obs (so (newW bad))) :=
  Ct.obs (sWorldNew_ct bad hb) fun G w ho o => by
    have h1 := ho 1
    have h1' : RelO G w 1 (.arr ([newC 1, newC 2, newC 3, newC 4] : List NodC)) := h1
    by_cases e : o = 1
    · subst e; exact arr_s h1'
    · have := ho o
      simpa [obs, lk0, e, orr] using this
theorem sPlayS_ct (bad : Int) (evs : List Evt) (hb : within bad 0 4 = true) (hl : evs.length ≤ 70) : Ct Tryz.prog 15 [.v bad, .v evs] noObj (fun r1 h1 => r1 = .tup [.v (sW (playF bad evs)), .v true] ∧ h1 = obs (so (playF bad evs))) := by
  refine Ct.intro Tryz.func15 rfl rfl ?_
  all_goals refine aS (aR ?_)
  all_goals refine oC (oX (o := 5) z26_WrldS rfl rfl) ?_
  all_goals refine oC (oA rfl (Conv.of rfl) rfl) ?_
  all_goals refine oN ?_
  all_goals refine aS (aR ?_)
  all_goals refine oC (oM rfl (Conv.of rfl) rfl) ?_
  refine awpOps_callO [] rfl fb62 (.cons rfl (Conv.of rfl) (.nil _)) (sWorldNew_w bad hb) ols0 k0 (argOk' rfl rfl argO0) rfl ?_
  rintro r h' ⟨rfl, rfl⟩
  refine ⟨so (newW bad), rfl, (fun o ho => by cases ho), fun o ho _ => ?_, kK bN k0, fun o ho => ?_, ?_⟩
  · have : o = 1 := by simpa [keys, lk0] using ho
    subst this; rfl
  · have : o = 1 := by simpa using (show o ∈ [1] from ho)
    subst this; rfl
  all_goals refine oC (op_mvo rfl rfl rfl rfl) ?_
  all_goals refine oC (op_extm rfl rfl rfl rfl) ?_
  all_goals refine oC (op_ext rfl rfl rfl) ?_
  all_goals refine oC (oX (o := 0) z26_WrldS rfl rfl) ?_
  all_goals refine oC (op_stm ty26_WrldS rfl rfl rfl) ?_
  all_goals refine oC (oA rfl (Conv.of rfl) rfl) ?_
  all_goals refine oN ?_
  all_goals refine aS (aS (aR ?_))
  all_goals refine oC (oM rfl (Conv.of rfl) rfl) ?_
  all_goals refine oC (op_not rfl rfl) ?_
  all_goals refine oC (oM rfl (Conv.of rfl) rfl) ?_
  all_goals refine g_lit (t := 16) (b := false) rfl ?_
  all_goals refine oC (gN rfl rfl rfl (oM rfl (Conv.of rfl) rfl)) ?_
  all_goals refine oC (gN rfl rfl rfl (oE sl45 rfl rfl)) ?_
  all_goals refine oC (gN rfl rfl rfl (op_gtr rfl rfl rfl)) ?_
  all_goals refine oC (oQ rfl rfl rfl rfl) ?_
  all_goals refine oN ?_
  refine aC rfl (fun h => ?_) (fun h => ?_)
  · exfalso
    simp at h
    omega
  · refine aW ?_
    all_goals refine aS (aS (aR ?_))
    all_goals refine oC (oA rfl (Conv.of rfl) rfl) ?_
    all_goals refine oN ?_
    refine aB ?_
    refine awp_loop' (fun n s => ∃ (k : Nat), ∃ (hn : n + k = evs.length), s = mkSt 35 [(1, .v evs), (4, .box 5 (IsLens.whole WrldS)), (6, .box 0 (IsLens.whole WrldS)), (8, .v (k : Int))] [(0, .cell (sW ((evs.take k).foldl doF (newW bad)))), (1, .arr (((evs.take k).foldl doF (newW bad)).nodes.map sN)), (5, .cell WrldS.zero)]) (evs.length) ⟨0, by omega, rfl⟩ (Le.mk rfl (tle rfl (rfl) rfl (tlb rfl rfl rfl (tlb rfl rfl rfl (tle rfl (rfl) rfl tln)))) (olk (by rfl) (by exact obOkS rfl) (olk (by rfl) (by exact bN) (olk rfl (by exact obOkS0) oln))) noS) ?_
    rintro n s ⟨k, hn, rfl⟩
    have hfine : FineX ((evs.take k).foldl doF (newW bad)) := foldl_ok _ (newW_ok bad)
    all_goals refine aS (aS (aR ?_))
    all_goals refine oC (oM rfl (Conv.of rfl) rfl) ?_
    all_goals refine oC (oM rfl (Conv.of rfl) rfl) ?_
    all_goals refine oC (oE sl45 rfl rfl) ?_
    all_goals refine oC (oLt rfl rfl rfl) ?_
    all_goals refine oN ?_
    refine aC rfl (fun h => ?_) (fun h => ?_)
    · have hlt : k < evs.length := by simpa using h
      have hx : evs[k]? = some evs[k] := List.getElem?_eq_getElem hlt
      refine aW ?_
      refine aS (aB ?_)
      all_goals refine dS ?_
      all_goals refine dC (op_ldm ty26_WrldS rfl rfl rfl) ?_
      all_goals refine dC (oM rfl (Conv.of rfl) rfl) ?_
      all_goals refine dC (oM rfl (Conv.of rfl) rfl) ?_
      all_goals refine dC (op_ix sl45 rfl rfl rfl (by omega) hx) ?_
      all_goals refine dC (oDR ty77 rfl rfl) ?_
      all_goals refine dC (oLM (s := 28) (pre := []) fb63 (.nil _) rfl (.cons rfl (Conv.of rfl) (.nil _)) (l21Do_ct _ evs[k] hfine) (olsk rfl ols0) (kK (by exact bN) k0) (kK (by exact bN) k0) rfl argO0 (argOk' rfl rfl argO0) (inOne rfl) (inOne rfl) rfl) ?_
      all_goals refine dC (op_stm ty26_WrldS rfl rfl rfl) ?_
      all_goals refine dr_nil mixed rfl ?_
      all_goals refine aR ?_
      all_goals refine oC (oM rfl (Conv.of rfl) rfl) ?_
      all_goals refine oC (oP rfl rfl rfl (by omega)) ?_
      all_goals refine oC (oA rfl (Conv.of rfl) rfl) ?_
      all_goals refine oN ?_
      repeat first | refine nS ?_ | refine nB ?_
      exact ⟨n - 1, _, by omega, ⟨k + 1, by omega, rfl⟩, Le.mk rfl (tle rfl (rfl) rfl (tlb rfl rfl rfl (tlb rfl rfl rfl (tle rfl (rfl) rfl tln)))) (olk (by (rw [foldl_at doF _ hx]; rfl)) (by exact obOkS rfl) (olk (by (rw [foldl_at doF _ hx]; rfl)) (by exact bN) (olk rfl (by exact obOkS0) oln))) noS⟩
    · refine aE ?_
      repeat refine ex_seq ?_
      refine eB ?_
      have hk : evs.length ≤ k := by simpa using h
      have hp : (evs.take k).foldl doF (newW bad) = playF bad evs := by rw [take_end hk]; rfl
      rw [hp] at hfine ⊢
      all_goals refine aS (aR ?_)
      all_goals refine oC (op_ldm ty26_WrldS rfl rfl rfl) ?_
      all_goals refine oC (op_stm ty26_WrldS rfl rfl rfl) ?_
      all_goals refine oC (oA rfl (Conv.of rfl) rfl) ?_
      all_goals refine oN ?_
      refine aT ?_
      repeat first | refine rS ?_ | refine rB ?_
      exact ⟨_, _, rNM (ol := so (playF bad evs)) (.cell ty26_WrldS rfl rfl (.keep (.v rfl (Conv.of rfl)) (.nil _))) rfl (inOne rfl) (olk rfl bN oln) noS, rfl, rfl⟩
/-- The reference's play: its result as a plain world. -/
theorem sPlay_ct (bad : Int) (evs : List Evt) (hb : within bad 0 4 = true) (hl : evs.length ≤ 70) : CtP Tryz.prog 15 [.v bad, .v evs] (.tup [.v (playF bad evs), .v true]) :=
  Ct.frz (sPlayS_ct bad evs hb hl) (frzS_ok (by have := (foldl_ok evs (newW_ok bad)).four; show (playF bad evs).nodes.length ≤ big; unfold playF; rw [this]; decide))
end Go.Proofs.YtmhmeppocbcmeaaGreat

/- What is drawn. -/
set_option linter.unusedVariables false
set_option linter.unusedSimpArgs false
namespace Go.Wt
open Go
def mixV (b : List UInt8) (k : Int) : Int :=
  ((b.getD (k.tmod b.length).toNat 0).toNat : Int) * 131 + ((b.getD ((k * 7 + 3).tmod b.length).toNat 0).toNat : Int) * 1117 + k * 29 + IntKind.i64.wrap (k.tdiv b.length) * 53
/-- A number below `n`. -/
def pickV (b : List UInt8) (k n : Int) : Int :=
  if (decide (n < 1) || decide ((b.length : Int) = 0)) = true then 0
  else if decide (k < (b.length : Int)) = true then ((b.getD k.toNat 0).toNat : Int).tmod n
  else (xor64 (mixV b k) (IntKind.i64.wrap ((mixV b k).tdiv 64))).tmod n
def nx (r : Rd) (c : Int) : Rd := ⟨r.b, r.p + c⟩
def pk (r : Rd) (n : Int) : Int := pickV r.b r.p n
/-- The reader has not gone too far. -/
def Far (m : Int) (r : Rd) : Prop := 0 ≤ r.p ∧ r.p ≤ m
def payV (r : Rd) : Pay := ⟨1 + pk r 3, (1 + pk r 3 + pk (nx r 1) 2).tmod 3 + 1, 1 + pk (nx r 2) 9⟩
def chStep (s : Int × List Itm × Rd) : Int × List Itm × Rd :=
  (s.1 + 1 + IntKind.i64.wrap ((pk s.2.2 6).tdiv 5) * pk (nx s.2.2 1) 3, s.2.1 ++ [⟨s.1 + 1 + IntKind.i64.wrap ((pk s.2.2 6).tdiv 5) * pk (nx s.2.2 1) 3, payV (nx s.2.2 2)⟩], nx s.2.2 5)
def chIter (r : Rd) : Nat → Int × List Itm × Rd
  | 0 => (0, [], nx r 1)
  | n + 1 => chStep (chIter r n)
def chainV (r : Rd) : List Itm := (chIter r (pk r 7).toNat).2.1
def chainR (r : Rd) : Rd := (chIter r (pk r 7).toNat).2.2
section bools
variable {P : Program} {S : Nat → Prop} {ops : Array Oper} {st : St} {d : Nat} {T pos aft} {x y : Operand} {t t' : TypeId} {m n : Bool}
theorem bool_bin {op : BinOp} {av : AV} {u : Value} (hx : st.ev x = some (.v m)) (hy : st.ev y = some (.v n)) (hn : Nat.blt d st.n = true)
    (h1 : ∀ w : World, (binOp op t (.bool m) (.bool n)).run P w = .ok u w) (h3 : ∀ G w ω, RelV G w ω av u) :
    OpOk P S ops ⟨some d, .binOp op t x y t', T, pos, aft, none⟩ (opT x ++ opT y) [] [(d, some av)] [] st :=
  bin_value hn fun st1 hag G w a hr => by
    have e1 := RelV.bool (hr.at hag hx fun t ht => by simp [ht])
    have e2 := RelV.bool (hr.at hag hy fun t ht => by simp [ht])
    refine ⟨u, by rw [e1, e2]; exact h1 w, by rw [e1, eqGuard_at_bool]; rfl, h3 _ _ _⟩
theorem binOp_neq_bool (t : TypeId) (m n : Bool) : binOp .neq t (.bool m) (.bool n) = (do pure (.bool !(← Op.equal t (.bool m) (.bool n)))) := by unfold binOp; rfl
theorem op_bneq (hu : P.underlying t = some .bool) (hx : st.ev x = some (.v m)) (hy : st.ev y = some (.v n)) (hn : Nat.blt d st.n = true) :
    OpOk P S ops ⟨some d, .binOp .neq t x y t', T, pos, aft, none⟩ (opT x ++ opT y) [] [(d, some (.v (!(m == n))))] [] st :=
  bool_bin hx hy hn (u := .bool !(m == n)) (fun w => by rw [binOp_neq_bool]; simp only [Sem.run_bind, run_equal_bool w t m n hu, Result.andThen_ok, Sem.run_pure]) fun G w ω => relBool G w ω _
end bools
end Go.Wt

/- The reference: draws. -/
set_option linter.unusedVariables false
set_option linter.unusedSimpArgs false
namespace Go.Proofs.YtmhmeppocbcmeaaGreat
open Go Go.Wt
end Go.Proofs.YtmhmeppocbcmeaaGreat

/- The reference: draws of payments and chains. -/
set_option linter.unusedVariables false
set_option linter.unusedSimpArgs false
namespace Go.Proofs.YtmhmeppocbcmeaaGreat
open Go Go.Wt
/-- What is drawn for a world. -/
abbrev ro (r : Rd) (w : Wrld) : List (Nat × Wt.Obj) := [(0, .cell r), (1, .arr (w.nodes.map sN))]
end Go.Proofs.YtmhmeppocbcmeaaGreat

/- The reference: draws of events. -/
set_option linter.unusedVariables false
set_option linter.unusedSimpArgs false
namespace Go.Proofs.YtmhmeppocbcmeaaGreat
open Go Go.Wt
end Go.Proofs.YtmhmeppocbcmeaaGreat

/- The reference: draws of plays. -/
set_option linter.unusedVariables false
set_option linter.unusedSimpArgs false
namespace Go.Proofs.YtmhmeppocbcmeaaGreat
open Go Go.Wt
end Go.Proofs.YtmhmeppocbcmeaaGreat

/- The reference: a drawn play. -/
set_option linter.unusedVariables false
set_option linter.unusedSimpArgs false
namespace Go.Proofs.YtmhmeppocbcmeaaGreat
open Go Go.Wt
end Go.Proofs.YtmhmeppocbcmeaaGreat

/- The laws' own words: the same chains, votes, nodes, worlds. -/
set_option linter.unusedVariables false
set_option linter.unusedSimpArgs false
namespace Go.Proofs.YtmhmeppocbcmeaaGreat
open Go Go.Wt
end Go.Proofs.YtmhmeppocbcmeaaGreat
