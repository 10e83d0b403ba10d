/- Part 5 of the proof: texts one behind the other. -/
import Derived.Test.YtmhmeppocbcmeaaGreatM4
/- Certificates of nodes; what a stranger is shown. -/
set_option linter.unusedVariables false
set_option linter.unusedSimpArgs false
namespace Go.Proofs.YtmhmeppocbcmeaaGreat
open Go Go.Wt
theorem clipVo_ct (a : OList Vote) : CtP Tryz.prog 60 [.v a.l] (.v (CList.mk a.l)) := clipV_ct a
set_option maxHeartbeats 2000000 in
theorem certVotes_ct (c : Cert) (h : certOk c = true) : CtP Tryz.prog 12 [.v c] (.v (CList.mk (certVotes c))) := by
  have h' := h
  simp only [certOk, Bool.and_eq_true, decide_eq_true_eq] at h'
  have hl := chainOk_len h'.1.1.1.1
  have h3 := h'.1.1.1.2
  have hb3 := h'.1.2
  have hvo : ∀ x ∈ c.by_, x.length ≤ 4 := fun x hx => votersOk_len (by have := h'.2; rw [List.all_eq_true] at this; exact this x hx)
  have hcv : certVotes c = votesAt c.chain 0 c.by_ := by unfold certVotes; rw [if_pos h]
  have hvl : ∀ k, (votesAt c.chain 0 (c.by_.take k)).length ≤ 12 := fun k => by
    have := votesAt_len c.chain (c.by_.take k) 0 (fun x hx => hvo x (List.mem_of_mem_take hx))
    rw [List.length_take] at this; omega
  refine Ct.intro Tryz.func12 rfl rfl ?_
  first | refine aS (aR ?_) | refine aS (aS (aR ?_)) | refine aR ?_ | refine aS (aS (aS (aR ?_)))
  first | refine oC (op_box (o := 0) ty30 rfl (Conv.of rfl) rfl rfl) ?_ | refine oC (op_boxm (o := 0) ty30 rfl rfl rfl rfl) ?_
  refine oC (oA rfl (Conv.of rfl) rfl) ?_
  refine oN ?_
  first | refine aS (aR ?_) | refine aS (aS (aR ?_)) | refine aR ?_ | refine aS (aS (aS (aR ?_)))
  first | refine oC (oD ty30 rfl rfl rfl) ?_ | refine oC (oDR ty30 rfl rfl) ?_ | refine oC (op_lde ty30 rfl rfl (by assumption) rfl) ?_ | refine oC (op_ldl ty30 rfl rfl rfl) ?_ | refine oC (op_ldd ty30 rfl rfl rfl) ?_ | refine oC (op_ldde ty30 rfl rfl (by assumption) rfl) ?_
  refine oC (oL fb11 (.cons rfl (Conv.of rfl) (.nil _)) (certOk_ct _ (by omega)) (aK rfl rfl aK0) rfl rfl) ?_
  refine oC (op_not rfl rfl) ?_
  refine oN ?_
  first | refine aS (aC rfl (fun h2 => absurd (not_t h2) (by rw [h]; decide)) (fun h2 => ?_)) | refine aS (aS (aC rfl (fun h2 => absurd (not_t h2) (by rw [h]; decide)) (fun h2 => ?_))) | refine aC rfl (fun h2 => absurd (not_t h2) (by rw [h]; decide)) (fun h2 => ?_) | refine aS (aS (aS (aC rfl (fun h2 => absurd (not_t h2) (by rw [h]; decide)) (fun h2 => ?_))))
  refine aW ?_
  first | refine aS (aR ?_) | refine aS (aS (aR ?_)) | refine aR ?_ | refine aS (aS (aS (aR ?_)))
  refine oC (op_bsl sl24 z38 (.nil _) rfl (by decide) rfl) ?_
  first | refine oC (oA rfl (Conv.of rfl) rfl) ?_ | refine oC (op_asl rfl rfl rfl rfl) ?_ | refine oC (op_aso rfl rfl rfl rfl) ?_
  refine oN ?_
  first | refine aS (aR ?_) | refine aS (aS (aR ?_)) | refine aR ?_ | refine aS (aS (aS (aR ?_)))
  first | refine oC (oF f30_1 rfl rfl) ?_ | refine oC (oFR f30_1 rfl rfl) ?_ | refine oC (oFE f30_1 rfl rfl) ?_
  first | refine oC (oD ty28 rfl rfl rfl) ?_ | refine oC (oDR ty28 rfl rfl) ?_ | refine oC (op_lde ty28 rfl rfl (by assumption) rfl) ?_ | refine oC (op_ldl ty28 rfl rfl rfl) ?_ | refine oC (op_ldd ty28 rfl rfl rfl) ?_ | refine oC (op_ldde ty28 rfl rfl (by assumption) rfl) ?_
  first | refine oC (oE sl28 rfl rfl) ?_ | refine oC (oEA sl28 rfl rfl rfl) ?_
  refine oC (oM rfl (Conv.of rfl) rfl) ?_
  refine oN ?_
  first | refine aS (aB ?_) | refine aS (aS (aB ?_)) | refine aB ?_ | refine aS (aS (aS (aB ?_)))
  first | refine aS (awp_loop' (fun n_ s => ∃ (k : Nat), ∃ (hn : n_ + k = 3), s = mkSt 39 [(1, .box 0 (IsLens.whole Cert)), (3, .v (OList.mk (votesAt c.chain 0 (c.by_.take k)) true)), (13, .v c.by_), (14, .v (c.by_.length : Int)), (15, .v (k : Int))] [(0, .cell c)]) (3) ⟨0, by omega, rfl⟩ (Le.mk rfl (tlb rfl rfl rfl (tle rfl (by first | rfl | (rw [votesAt_step hx])) rfl (tle rfl (rfl) rfl (tle rfl (rfl) rfl (tle rfl (rfl) rfl tln))))) (olk rfl (by first | exact bC | exact bA | exact obOkW rfl | exact obOkW0 | exact obOkN | exact obOkS rfl | exact bN | exact obOkS0 | trivial) oln) noS) ?_) | refine aS (aS (awp_loop' (fun n_ s => ∃ (k : Nat), ∃ (hn : n_ + k = 3), s = mkSt 39 [(1, .box 0 (IsLens.whole Cert)), (3, .v (OList.mk (votesAt c.chain 0 (c.by_.take k)) true)), (13, .v c.by_), (14, .v (c.by_.length : Int)), (15, .v (k : Int))] [(0, .cell c)]) (3) ⟨0, by omega, rfl⟩ (Le.mk rfl (tlb rfl rfl rfl (tle rfl (by first | rfl | (rw [votesAt_step hx])) rfl (tle rfl (rfl) rfl (tle rfl (rfl) rfl (tle rfl (rfl) rfl tln))))) (olk rfl (by first | exact bC | exact bA | exact obOkW rfl | exact obOkW0 | exact obOkN | exact obOkS rfl | exact bN | exact obOkS0 | trivial) oln) noS) ?_)) | refine awp_loop' (fun n_ s => ∃ (k : Nat), ∃ (hn : n_ + k = 3), s = mkSt 39 [(1, .box 0 (IsLens.whole Cert)), (3, .v (OList.mk (votesAt c.chain 0 (c.by_.take k)) true)), (13, .v c.by_), (14, .v (c.by_.length : Int)), (15, .v (k : Int))] [(0, .cell c)]) (3) ⟨0, by omega, rfl⟩ (Le.mk rfl (tlb rfl rfl rfl (tle rfl (by first | rfl | (rw [votesAt_step hx])) rfl (tle rfl (rfl) rfl (tle rfl (rfl) rfl (tle rfl (rfl) rfl tln))))) (olk rfl (by first | exact bC | exact bA | exact obOkW rfl | exact obOkW0 | exact obOkN | exact obOkS rfl | exact bN | exact obOkS0 | trivial) oln) noS) ?_ | refine aS (aS (aS (awp_loop' (fun n_ s => ∃ (k : Nat), ∃ (hn : n_ + k = 3), s = mkSt 39 [(1, .box 0 (IsLens.whole Cert)), (3, .v (OList.mk (votesAt c.chain 0 (c.by_.take k)) true)), (13, .v c.by_), (14, .v (c.by_.length : Int)), (15, .v (k : Int))] [(0, .cell c)]) (3) ⟨0, by omega, rfl⟩ (Le.mk rfl (tlb rfl rfl rfl (tle rfl (by first | rfl | (rw [votesAt_step hx])) rfl (tle rfl (rfl) rfl (tle rfl (rfl) rfl (tle rfl (rfl) rfl tln))))) (olk rfl (by first | exact bC | exact bA | exact obOkW rfl | exact obOkW0 | exact obOkN | exact obOkS rfl | exact bN | exact obOkS0 | trivial) oln) noS) ?_)))
  rintro n_ s ⟨k, hn, rfl⟩
  first | refine aS (aR ?_) | refine aS (aS (aR ?_)) | refine aR ?_ | refine aS (aS (aS (aR ?_)))
  refine oC (oLt rfl rfl rfl) ?_
  refine oN ?_
  first | refine aS (aC rfl (fun h4 => ?_) (fun h4 => ?_)) | refine aS (aS (aC rfl (fun h4 => ?_) (fun h4 => ?_))) | refine aC rfl (fun h4 => ?_) (fun h4 => ?_) | refine aS (aS (aS (aC rfl (fun h4 => ?_) (fun h4 => ?_))))
  · have hk3 : k < 3 := by have := of_decide_eq_true h4; omega
    have hx : c.by_[k]? = some (c.by_[k]'(by omega)) := List.getElem?_eq_getElem (by omega)
    have hxl := hvo _ (List.getElem_mem (show k < c.by_.length by omega))
    generalize hlk : c.by_[k]'(by omega) = lk0 at hx hxl
    have hpl : (preC c.chain k).length ≤ 1000000 := by unfold preC; rw [List.length_take]; omega
    have hpre := prefix_ct c (k : Int) (by omega) (by omega) (by omega)
    have hvk := hvl k
    refine aW ?_
    first | refine aS (aB ?_) | refine aS (aS (aB ?_)) | refine aB ?_ | refine aS (aS (aS (aB ?_)))
    first | refine aS (aR ?_) | refine aS (aS (aR ?_)) | refine aR ?_ | refine aS (aS (aS (aR ?_)))
    first | refine oC (oM rfl (Conv.of rfl) rfl) ?_ | refine oC (op_mvl rfl rfl rfl rfl) ?_ | refine oC (op_mvo rfl rfl rfl rfl) ?_
    first | refine oC (op_ix sl28 rfl rfl rfl (by omega) hx) ?_ | refine oC (op_ixA sl28 rfl rfl rfl rfl (by omega)) ?_
    first | refine oC (oD ty93 rfl rfl rfl) ?_ | refine oC (oDR ty93 rfl rfl) ?_ | refine oC (op_lde ty93 rfl rfl (by assumption) rfl) ?_ | refine oC (op_ldl ty93 rfl rfl rfl) ?_ | refine oC (op_ldd ty93 rfl rfl rfl) ?_ | refine oC (op_ldde ty93 rfl rfl (by assumption) rfl) ?_
    first | refine oC (oA rfl (Conv.of rfl) rfl) ?_ | refine oC (op_asl rfl rfl rfl rfl) ?_ | refine oC (op_aso rfl rfl rfl rfl) ?_
    first | refine oC (oA rfl (Conv.of rfl) rfl) ?_ | refine oC (op_asl rfl rfl rfl rfl) ?_ | refine oC (op_aso rfl rfl rfl rfl) ?_
    refine oN ?_
    first | refine aS (aR ?_) | refine aS (aS (aR ?_)) | refine aR ?_ | refine aS (aS (aS (aR ?_)))
    first | refine oC (oM rfl (Conv.of rfl) rfl) ?_ | refine oC (op_mvl rfl rfl rfl rfl) ?_ | refine oC (op_mvo rfl rfl rfl rfl) ?_
    first | refine oC (oE sl93 rfl rfl) ?_ | refine oC (oEA sl93 rfl rfl rfl) ?_
    refine oC (oM rfl (Conv.of rfl) rfl) ?_
    refine oN ?_
    first | refine aS (aS (aS (aST (s' := mkSt 39 [(1, .box 0 (IsLens.whole Cert)), (3, .v (OList.mk (votesAt c.chain 0 (c.by_.take k) ++ lk0.map (fun n => Vote.mk n (preC c.chain k))) true)), (13, .v c.by_), (14, .v (c.by_.length : Int)), (15, .v (k : Int))] [(0, .cell c)]) ?_ ?_))) | refine aS (aS (aST (s' := mkSt 39 [(1, .box 0 (IsLens.whole Cert)), (3, .v (OList.mk (votesAt c.chain 0 (c.by_.take k) ++ lk0.map (fun n => Vote.mk n (preC c.chain k))) true)), (13, .v c.by_), (14, .v (c.by_.length : Int)), (15, .v (k : Int))] [(0, .cell c)]) ?_ ?_)) | refine aS (aST (s' := mkSt 39 [(1, .box 0 (IsLens.whole Cert)), (3, .v (OList.mk (votesAt c.chain 0 (c.by_.take k) ++ lk0.map (fun n => Vote.mk n (preC c.chain k))) true)), (13, .v c.by_), (14, .v (c.by_.length : Int)), (15, .v (k : Int))] [(0, .cell c)]) ?_ ?_) | refine aST (s' := mkSt 39 [(1, .box 0 (IsLens.whole Cert)), (3, .v (OList.mk (votesAt c.chain 0 (c.by_.take k) ++ lk0.map (fun n => Vote.mk n (preC c.chain k))) true)), (13, .v c.by_), (14, .v (c.by_.length : Int)), (15, .v (k : Int))] [(0, .cell c)]) ?_ ?_ | refine awp_toB (s' := mkSt 39 [(1, .box 0 (IsLens.whole Cert)), (3, .v (OList.mk (votesAt c.chain 0 (c.by_.take k) ++ lk0.map (fun n => Vote.mk n (preC c.chain k))) true)), (13, .v c.by_), (14, .v (c.by_.length : Int)), (15, .v (k : Int))] [(0, .cell c)]) ?_ ?_ | refine awp_to (s' := mkSt 39 [(1, .box 0 (IsLens.whole Cert)), (3, .v (OList.mk (votesAt c.chain 0 (c.by_.take k) ++ lk0.map (fun n => Vote.mk n (preC c.chain k))) true)), (13, .v c.by_), (14, .v (c.by_.length : Int)), (15, .v (k : Int))] [(0, .cell c)]) ?_ ?_
    · first | refine aS (aB ?_) | refine aS (aS (aB ?_)) | refine aB ?_ | refine aS (aS (aS (aB ?_)))
      first | refine aS (awp_loop' (fun n_ s => ∃ (j : Nat), ∃ (hj : n_ + j = lk0.length), s = mkSt 39 [(1, .box 0 (IsLens.whole Cert)), (3, .v (OList.mk (votesAt c.chain 0 (c.by_.take k) ++ (lk0.take j).map (fun n => Vote.mk n (preC c.chain k))) true)), (4, .v (k : Int)), (13, .v c.by_), (14, .v (c.by_.length : Int)), (15, .v (k : Int)), (20, .v lk0), (21, .v (lk0.length : Int)), (22, .v (j : Int))] [(0, .cell c)]) (lk0.length) ⟨0, by omega, rfl⟩ (Le.mk rfl (tlb rfl rfl rfl (tle rfl (by first | rfl | (show AV.v (OList.mk _ true) = AV.v (OList.mk _ true); first | (simp; done) | (rw [take_at hy, List.map_append, List.append_assoc]; rfl))) rfl (tle rfl (rfl) rfl (tle rfl (rfl) rfl (tle rfl (rfl) rfl (tle rfl (rfl) rfl (tle rfl (rfl) rfl (tle rfl (rfl) rfl (tle rfl (rfl) rfl tln))))))))) (olk rfl (by first | exact bC | exact bA | exact obOkW rfl | exact obOkW0 | exact obOkN | exact obOkS rfl | exact bN | exact obOkS0 | trivial) oln) noS) ?_) | refine aS (aS (awp_loop' (fun n_ s => ∃ (j : Nat), ∃ (hj : n_ + j = lk0.length), s = mkSt 39 [(1, .box 0 (IsLens.whole Cert)), (3, .v (OList.mk (votesAt c.chain 0 (c.by_.take k) ++ (lk0.take j).map (fun n => Vote.mk n (preC c.chain k))) true)), (4, .v (k : Int)), (13, .v c.by_), (14, .v (c.by_.length : Int)), (15, .v (k : Int)), (20, .v lk0), (21, .v (lk0.length : Int)), (22, .v (j : Int))] [(0, .cell c)]) (lk0.length) ⟨0, by omega, rfl⟩ (Le.mk rfl (tlb rfl rfl rfl (tle rfl (by first | rfl | (show AV.v (OList.mk _ true) = AV.v (OList.mk _ true); first | (simp; done) | (rw [take_at hy, List.map_append, List.append_assoc]; rfl))) rfl (tle rfl (rfl) rfl (tle rfl (rfl) rfl (tle rfl (rfl) rfl (tle rfl (rfl) rfl (tle rfl (rfl) rfl (tle rfl (rfl) rfl (tle rfl (rfl) rfl tln))))))))) (olk rfl (by first | exact bC | exact bA | exact obOkW rfl | exact obOkW0 | exact obOkN | exact obOkS rfl | exact bN | exact obOkS0 | trivial) oln) noS) ?_)) | refine awp_loop' (fun n_ s => ∃ (j : Nat), ∃ (hj : n_ + j = lk0.length), s = mkSt 39 [(1, .box 0 (IsLens.whole Cert)), (3, .v (OList.mk (votesAt c.chain 0 (c.by_.take k) ++ (lk0.take j).map (fun n => Vote.mk n (preC c.chain k))) true)), (4, .v (k : Int)), (13, .v c.by_), (14, .v (c.by_.length : Int)), (15, .v (k : Int)), (20, .v lk0), (21, .v (lk0.length : Int)), (22, .v (j : Int))] [(0, .cell c)]) (lk0.length) ⟨0, by omega, rfl⟩ (Le.mk rfl (tlb rfl rfl rfl (tle rfl (by first | rfl | (show AV.v (OList.mk _ true) = AV.v (OList.mk _ true); first | (simp; done) | (rw [take_at hy, List.map_append, List.append_assoc]; rfl))) rfl (tle rfl (rfl) rfl (tle rfl (rfl) rfl (tle rfl (rfl) rfl (tle rfl (rfl) rfl (tle rfl (rfl) rfl (tle rfl (rfl) rfl (tle rfl (rfl) rfl tln))))))))) (olk rfl (by first | exact bC | exact bA | exact obOkW rfl | exact obOkW0 | exact obOkN | exact obOkS rfl | exact bN | exact obOkS0 | trivial) oln) noS) ?_ | refine aS (aS (aS (awp_loop' (fun n_ s => ∃ (j : Nat), ∃ (hj : n_ + j = lk0.length), s = mkSt 39 [(1, .box 0 (IsLens.whole Cert)), (3, .v (OList.mk (votesAt c.chain 0 (c.by_.take k) ++ (lk0.take j).map (fun n => Vote.mk n (preC c.chain k))) true)), (4, .v (k : Int)), (13, .v c.by_), (14, .v (c.by_.length : Int)), (15, .v (k : Int)), (20, .v lk0), (21, .v (lk0.length : Int)), (22, .v (j : Int))] [(0, .cell c)]) (lk0.length) ⟨0, by omega, rfl⟩ (Le.mk rfl (tlb rfl rfl rfl (tle rfl (by first | rfl | (show AV.v (OList.mk _ true) = AV.v (OList.mk _ true); first | (simp; done) | (rw [take_at hy, List.map_append, List.append_assoc]; rfl))) rfl (tle rfl (rfl) rfl (tle rfl (rfl) rfl (tle rfl (rfl) rfl (tle rfl (rfl) rfl (tle rfl (rfl) rfl (tle rfl (rfl) rfl (tle rfl (rfl) rfl tln))))))))) (olk rfl (by first | exact bC | exact bA | exact obOkW rfl | exact obOkW0 | exact obOkN | exact obOkS rfl | exact bN | exact obOkS0 | trivial) oln) noS) ?_)))
      rintro n_ s ⟨j, hj, rfl⟩
      first | refine aS (aR ?_) | refine aS (aS (aR ?_)) | refine aR ?_ | refine aS (aS (aS (aR ?_)))
      refine oC (oLt rfl rfl rfl) ?_
      refine oN ?_
      first | refine aS (aC rfl (fun h5 => ?_) (fun h5 => ?_)) | refine aS (aS (aC rfl (fun h5 => ?_) (fun h5 => ?_))) | refine aC rfl (fun h5 => ?_) (fun h5 => ?_) | refine aS (aS (aS (aC rfl (fun h5 => ?_) (fun h5 => ?_))))
      · have hjl : j < lk0.length := by have := of_decide_eq_true h5; omega
        have hy : lk0[j]? = some lk0[j] := List.getElem?_eq_getElem hjl
        generalize lk0[j] = m at hy
        refine aW ?_
        first | refine aS (aB ?_) | refine aS (aS (aB ?_)) | refine aB ?_ | refine aS (aS (aS (aB ?_)))
        first | refine aS (aR ?_) | refine aS (aS (aR ?_)) | refine aR ?_ | refine aS (aS (aS (aR ?_)))
        first | refine oC (op_ix sl93 rfl rfl rfl (by omega) hy) ?_ | refine oC (op_ixA sl93 rfl rfl rfl rfl (by omega)) ?_
        first | refine oC (oD ty3 rfl rfl rfl) ?_ | refine oC (oDR ty3 rfl rfl) ?_ | refine oC (op_lde ty3 rfl rfl (by assumption) rfl) ?_ | refine oC (op_ldl ty3 rfl rfl rfl) ?_ | refine oC (op_ldd ty3 rfl rfl rfl) ?_ | refine oC (op_ldde ty3 rfl rfl (by assumption) rfl) ?_
        first | refine oC (oA rfl (Conv.of rfl) rfl) ?_ | refine oC (op_asl rfl rfl rfl rfl) ?_ | refine oC (op_aso rfl rfl rfl rfl) ?_
        refine oN ?_
        first | refine aS (aR ?_) | refine aS (aS (aR ?_)) | refine aR ?_ | refine aS (aS (aS (aR ?_)))
        first | refine oC (oM rfl (Conv.of rfl) rfl) ?_ | refine oC (op_mvl rfl rfl rfl rfl) ?_ | refine oC (op_mvo rfl rfl rfl rfl) ?_
        first | refine oC (oM rfl (Conv.of rfl) rfl) ?_ | refine oC (op_mvl rfl rfl rfl rfl) ?_ | refine oC (op_mvo rfl rfl rfl rfl) ?_
        first | refine oC (oD ty30 rfl rfl rfl) ?_ | refine oC (oDR ty30 rfl rfl) ?_ | refine oC (op_lde ty30 rfl rfl (by assumption) rfl) ?_ | refine oC (op_ldl ty30 rfl rfl rfl) ?_ | refine oC (op_ldd ty30 rfl rfl rfl) ?_ | refine oC (op_ldde ty30 rfl rfl (by assumption) rfl) ?_
        first | refine oC (oM rfl (Conv.of rfl) rfl) ?_ | refine oC (op_mvl rfl rfl rfl rfl) ?_ | refine oC (op_mvo rfl rfl rfl rfl) ?_
        refine oC (oL fb59 (.cons rfl (Conv.of rfl) (.cons rfl (Conv.of rfl) (.nil _))) (hpre) (aK rfl rfl (aK rfl rfl aK0)) rfl rfl) ?_
        refine oC (oL fb58 (.cons rfl (Conv.of rfl) (.nil _)) (copied_ct _ hpl) (aK rfl rfl aK0) rfl rfl) ?_
        refine oC (op_build (.cons f38_0 rfl (Conv.of rfl) (.cons f38_1 rfl (Conv.cl) (.nil _))) z38 rfl pl38 rfl) ?_
        refine oC (op_bsl sl24 z38 (.cons rfl (Conv.of rfl) (.nil _)) rfl (by decide) rfl) ?_
        refine oC (op_app sl24 z38 ul24 rfl rfl rfl (by (simp; omega)) (by (simp; omega)) rfl rfl) ?_
        first | refine oC (oA rfl (Conv.of rfl) rfl) ?_ | refine oC (op_asl rfl rfl rfl rfl) ?_ | refine oC (op_aso rfl rfl rfl rfl) ?_
        refine oN ?_
        first | refine aS (aR ?_) | refine aS (aS (aR ?_)) | refine aR ?_ | refine aS (aS (aS (aR ?_)))
        refine oC (oP rfl rfl rfl (by omega)) ?_
        first | refine oC (oM rfl (Conv.of rfl) rfl) ?_ | refine oC (op_mvl rfl rfl rfl rfl) ?_ | refine oC (op_mvo rfl rfl rfl rfl) ?_
        refine oN ?_
        repeat first | refine nS ?_ | refine nB ?_
        exact ⟨n_ - 1, _, by omega, ⟨j + 1, by omega, rfl⟩, Le.mk rfl (tlb rfl rfl rfl (tle rfl (by first | rfl | (show AV.v (OList.mk _ true) = AV.v (OList.mk _ true); first | (simp; done) | (rw [take_at hy, List.map_append, List.append_assoc]; rfl))) rfl (tle rfl (rfl) rfl (tle rfl (rfl) rfl (tle rfl (rfl) rfl (tle rfl (rfl) rfl (tle rfl (rfl) rfl (tle rfl (rfl) rfl (tle rfl (rfl) rfl tln))))))))) (olk rfl (by first | exact bC | exact bA | exact obOkW rfl | exact obOkW0 | exact obOkN | exact obOkS rfl | exact bN | exact obOkS0 | trivial) oln) noS⟩
      · refine aE ?_
        repeat refine ex_seq ?_
        refine eB ?_
        have hje : lk0.length ≤ j := by have := of_decide_eq_false h5; omega
        rw [take_end hje]
        all_goals exact Le.mk rfl (tlb rfl rfl rfl (tle rfl (rfl) rfl (tle rfl (rfl) rfl (tle rfl (rfl) rfl (tle rfl (rfl) rfl tln))))) (olk rfl (by first | exact bC | exact bA | exact obOkW rfl | exact obOkW0 | exact obOkN | exact obOkS rfl | exact bN | exact obOkS0 | trivial) oln) noS
    · first | refine aS (aR ?_) | refine aS (aS (aR ?_)) | refine aR ?_ | refine aS (aS (aS (aR ?_)))
      refine oC (oP rfl rfl rfl (by omega)) ?_
      first | refine oC (oM rfl (Conv.of rfl) rfl) ?_ | refine oC (op_mvl rfl rfl rfl rfl) ?_ | refine oC (op_mvo rfl rfl rfl rfl) ?_
      refine oN ?_
      repeat first | refine nS ?_ | refine nB ?_
      exact ⟨n_ - 1, _, by omega, ⟨k + 1, by omega, rfl⟩, Le.mk rfl (tlb rfl rfl rfl (tle rfl (by first | rfl | (rw [votesAt_step hx])) rfl (tle rfl (rfl) rfl (tle rfl (rfl) rfl (tle rfl (rfl) rfl tln))))) (olk rfl (by first | exact bC | exact bA | exact obOkW rfl | exact obOkW0 | exact obOkN | exact obOkS rfl | exact bN | exact obOkS0 | trivial) oln) noS⟩
  · refine aE ?_
    repeat refine ex_seq ?_
    refine eB ?_
    have hk3 : c.by_.length ≤ k := by have := of_decide_eq_false h4; omega
    rw [take_end hk3]
    first | refine aS (aR ?_) | refine aS (aS (aR ?_)) | refine aR ?_ | refine aS (aS (aS (aR ?_)))
    first | refine oC (oM rfl (Conv.of rfl) rfl) ?_ | refine oC (op_mvl rfl rfl rfl rfl) ?_ | refine oC (op_mvo rfl rfl rfl rfl) ?_
    refine oC (oL fb60 (.cons rfl (Conv.ol) (.nil _)) (clipVo_ct ⟨_, true⟩) (aK rfl rfl aK0) rfl rfl) ?_
    first | refine oC (oA rfl (Conv.of rfl) rfl) ?_ | refine oC (op_asl rfl rfl rfl rfl) ?_ | refine oC (op_aso rfl rfl rfl rfl) ?_
    refine oN ?_
    refine aT ?_
    repeat first | refine rS ?_ | refine rB ?_
    refine finP (.v rfl (Conv.of rfl)) rfl ?_
    show AV.v (CList.mk _) = _
    rw [hcv]
theorem certVotesP_ct (c : Cert) (h : certOk c = true) : CtP Tryz.prog 12 [.v c] (.v (certVotes c)) := Ct.res (certVotes_ct c h) fun G w u h => Conv.cl h
theorem shownFn_ct (v : Vote) (hO : Nat → Wt.Obj) (w : Wrld) (ho : hO 0 = .cell w) (hf : hO 8 = .free) (hf9 : hO 9 = .free) (hH : ∀ o, obOk (pH hO) (hO o)) :
    Ct Tryz.prog 45 [.v v, .box 0 (IsLens.whole Wrld)] hO (fun r1 h1 => r1 = .v (!shownB w v) ∧ h1 = hO) := by
  refine Ct.intro Tryz.func45 rfl rfl ?_
  first | refine aS (aR ?_) | refine aS (aS (aR ?_)) | refine aR ?_ | refine aS (aS (aS (aR ?_)))
  first | refine oC (op_box (o := 8) ty38 rfl (Conv.of rfl) hf rfl) ?_ | refine oC (op_boxm (o := 8) ty38 rfl rfl hf rfl) ?_
  refine oC (oA rfl (Conv.of rfl) rfl) ?_
  refine oN ?_
  have hH' : ∀ o, obOk (pH (fun o => orr (lk [(8, Wt.Obj.cell v)] o) (hO o))) (orr (lk [(8, Wt.Obj.cell v)] o) (hO o)) := fun o => by
    by_cases e : o = 8
    · subst e; exact plain_refs _
    · have := hH o
      simp only [lk, if_neg e, orr]
      cases hx : hO o with
      | free => trivial
      | dead => trivial
      | cell x =>
        rw [hx] at this
        intro o' h'
        have h2 := this o' h'
        unfold pH at h2 ⊢
        by_cases e' : o' = 8
        · subst e'; rfl
        · simpa [lk, e', orr] using h2
      | arr xs =>
        rw [hx] at this
        intro x hx' o' h'
        have h2 := this x hx' o' h'
        unfold pH at h2 ⊢
        by_cases e' : o' = 8
        · subst e'; rfl
        · simpa [lk, e', orr] using h2
  first | refine aS (aR ?_) | refine aS (aS (aR ?_)) | refine aR ?_ | refine aS (aS (aS (aR ?_)))
  first | refine oC (oD ty38 rfl rfl rfl) ?_ | refine oC (oDR ty38 rfl rfl) ?_ | refine oC (op_lde ty38 rfl rfl (by assumption) rfl) ?_ | refine oC (op_ldl ty38 rfl rfl rfl) ?_ | refine oC (op_ldd ty38 rfl rfl rfl) ?_ | refine oC (op_ldde ty38 rfl rfl (by assumption) rfl) ?_
  refine awpOps_callH (h := fun o => orr (lk [(8, Wt.Obj.cell v)] o) (hO o)) rfl (fb46) (.cons rfl (Conv.of rfl) (.cons rfl (Conv.of rfl) (.nil _))) rfl (shown_w_ct v _ w (by simpa [lk, orr] using ho) (by simpa [lk, orr] using hf9) hH') (Hand.none (Hand.l1 ⟨rfl, fun o ho' => by simp [AV.refs] at ho'; subst ho'; simp [pH, lk, orr, ho, isFree]⟩ (Hand.l1 (Hand.of rfl rfl) Hand.l0))) hH' rfl rfl ?_
  refine oC (op_not rfl rfl) ?_
  first | refine oC (oA rfl (Conv.of rfl) rfl) ?_ | refine oC (op_asl rfl rfl rfl rfl) ?_ | refine oC (op_aso rfl rfl rfl rfl) ?_
  refine oN ?_
  refine aT ?_
  refine finF (.v rfl (Conv.of rfl)) rfl rfl (by intro o ho'; by_cases e : o = 8 <;> first | (exfalso; subst e; rw [hf] at ho'; exact absurd ho' (by decide)) | simp only [st0, St.upd, lk, orr, if_neg e]) hH
theorem any_shown (w : Wrld) (l : List Vote) : (l.any fun v => !shownB w v) = !l.all (shownB w) := by
  induction l with
  | nil => rfl
  | cons x l ih => simp only [List.any_cons, List.all_cons, ih, Bool.not_and]
set_option maxHeartbeats 2000000 in
theorem worldShown_ct (w : Wrld) (c : Cert) (hw : worldOk w = true) (hc : certOk c = true) : CtP Tryz.prog 8 [.v w, .v c] (.v (worldShown w c)) := by
  have hc' := hc
  simp only [certOk, Bool.and_eq_true, decide_eq_true_eq] at hc'
  have hl := chainOk_len hc'.1.1.1.1
  have e : worldShown w c = !(certVotes c).any fun v => !shownB w v := by
    rw [any_shown, Bool.not_not, worldShown, hw, hc]; rfl
  rw [e]
  have hk1 : CtP Tryz.prog 43 [.v w] (.v true) := by have := worldOk_ct w; rwa [hw] at this
  have hk2 : CtP Tryz.prog 11 [.v c] (.v true) := by have := certOk_ct c (by omega); rwa [hc] at this
  refine Ct.intro Tryz.func8 rfl rfl ?_
  all_goals first | refine aS (aR ?_) | refine aS (aS (aR ?_)) | refine aR ?_ | refine aS (aS (aS (aR ?_)))
  all_goals first | refine oC (op_box (o := 0) ty26 rfl (Conv.of rfl) rfl rfl) ?_ | refine oC (op_boxm (o := 0) ty26 rfl rfl rfl rfl) ?_
  all_goals first | refine oC (op_box (o := 1) ty30 rfl (Conv.of rfl) rfl rfl) ?_ | refine oC (op_boxm (o := 1) ty30 rfl rfl rfl rfl) ?_
  all_goals refine oC (oA rfl (Conv.of rfl) rfl) ?_
  all_goals refine oN ?_
  all_goals first | refine aS (aR ?_) | refine aS (aS (aR ?_)) | refine aR ?_ | refine aS (aS (aS (aR ?_)))
  all_goals first | refine oC (oD ty26 rfl rfl rfl) ?_ | refine oC (oDR ty26 rfl rfl) ?_ | refine oC (op_lde ty26 rfl rfl (by assumption) rfl) ?_ | refine oC (op_ldl ty26 rfl rfl rfl) ?_ | refine oC (op_ldd ty26 rfl rfl rfl) ?_ | refine oC (op_ldde ty26 rfl rfl (by assumption) rfl) ?_
  all_goals refine oC (oL fb43 (.cons rfl (Conv.of rfl) (.nil _)) (hk1) (aK rfl rfl aK0) rfl rfl) ?_
  all_goals first | refine oC (oM rfl (Conv.of rfl) rfl) ?_ | refine oC (op_mvl rfl rfl rfl rfl) ?_ | refine oC (op_mvo rfl rfl rfl rfl) ?_
  all_goals first | refine g_lit (t := 7) (b := true) rfl ?_ | refine g_lit (t := 7) (b := false) rfl ?_ | refine g_ulit (t := 7) rfl ?_ | refine g_split (t := 7) rfl (fun h => ?_) (fun h => ?_)
  all_goals first | refine oC (gF rfl rfl rfl rfl rfl) ?_ | refine oC (g_und rfl rfl rfl) ?_ | refine oC (gN rfl rfl rfl (oD ty30 rfl rfl rfl)) ?_ | refine oC (gN rfl rfl rfl (oDR ty30 rfl rfl)) ?_ | refine oC (gN rfl rfl rfl (op_lde ty30 rfl rfl (by assumption) rfl)) ?_ | refine oC (gN rfl rfl rfl (op_ldl ty30 rfl rfl rfl)) ?_ | refine oC (gN rfl rfl rfl (op_ldd ty30 rfl rfl rfl)) ?_ | refine oC (gN rfl rfl rfl (op_ldde ty30 rfl rfl (by assumption) rfl)) ?_
  all_goals first | refine oC (gF rfl rfl rfl rfl rfl) ?_ | refine oC (g_und rfl rfl rfl) ?_ | refine oC (gN rfl rfl rfl (oL fb11 (.cons rfl (Conv.of rfl) (.nil _)) (hk2) (aK rfl rfl aK0) rfl rfl)) ?_
  all_goals refine oC (oQ rfl rfl rfl rfl) ?_
  all_goals first | refine oC (oM rfl (Conv.of rfl) rfl) ?_ | refine oC (op_mvl rfl rfl rfl rfl) ?_ | refine oC (op_mvo rfl rfl rfl rfl) ?_
  all_goals first | refine g_lit (t := 11) (b := true) rfl ?_ | refine g_lit (t := 11) (b := false) rfl ?_ | refine g_ulit (t := 11) rfl ?_ | refine g_split (t := 11) rfl (fun h => ?_) (fun h => ?_)
  all_goals first | refine oC (gF rfl rfl rfl rfl rfl) ?_ | refine oC (g_und rfl rfl rfl) ?_ | refine oC (gN rfl rfl rfl (oD ty30 rfl rfl rfl)) ?_ | refine oC (gN rfl rfl rfl (oDR ty30 rfl rfl)) ?_ | refine oC (gN rfl rfl rfl (op_lde ty30 rfl rfl (by assumption) rfl)) ?_ | refine oC (gN rfl rfl rfl (op_ldl ty30 rfl rfl rfl)) ?_ | refine oC (gN rfl rfl rfl (op_ldd ty30 rfl rfl rfl)) ?_ | refine oC (gN rfl rfl rfl (op_ldde ty30 rfl rfl (by assumption) rfl)) ?_
  all_goals first | refine oC (gF rfl rfl rfl rfl rfl) ?_ | refine oC (g_und rfl rfl rfl) ?_ | refine oC (gN rfl rfl rfl (oL fb12 (.cons rfl (Conv.of rfl) (.nil _)) (certVotesP_ct c hc) (aK rfl rfl aK0) rfl rfl)) ?_
  all_goals first | refine oC (gF rfl rfl rfl rfl rfl) ?_ | refine oC (g_und rfl rfl rfl) ?_ | refine oC (gN rfl rfl rfl (op_mf (f := 45) .nil (.cons (r := .box 0 (IsLens.whole Wrld)) rfl (Conv.of rfl) .nil) rfl)) ?_
  all_goals first | refine oC (gF rfl rfl rfl rfl rfl) ?_ | refine oC (g_und rfl rfl rfl) ?_ | refine awpOps_on rfl rfl rfl (awpOps_callH rfl (fb44) (.cons rfl (Conv.of rfl) (.cons rfl (Conv.of rfl) (.nil _))) rfl (containsV_ct _ _ [] [.box 0 (IsLens.whole Wrld)] _ (fun v => !shownB w v) (fb45) (fun x hx => shownFn_ct x _ w rfl rfl rfl (fun o => by by_cases e : o = 0 <;> by_cases e1 : o = 1 <;> simp [mkSt, st0, St.upd, lk, lk0, orr, e, e1, obOk, noObj] <;> exact plain_refs _)) (by intro z hz; simp [avs, FV.av] at hz; subst hz; exact ⟨rfl, fun o ho => by simp [AV.refs] at ho; subst ho; rfl⟩) (fun o => by by_cases e : o = 0 <;> by_cases e1 : o = 1 <;> simp [mkSt, st0, St.upd, lk, lk0, orr, e, e1, obOk, noObj] <;> exact plain_refs _)) (Hand.none (Hand.l1 (Hand.of rfl rfl) (Hand.l1 ⟨rfl, fun o ho => by simp [AV.refs, FV.refs] at ho; subst ho; rfl⟩ Hand.l0))) (fun o => by by_cases e : o = 0 <;> by_cases e1 : o = 1 <;> simp [mkSt, st0, St.upd, lk, lk0, orr, e, e1, obOk, noObj] <;> exact plain_refs _) rfl rfl ?_)
  all_goals first | refine oC (gF rfl rfl rfl rfl rfl) ?_ | refine oC (g_und rfl rfl rfl) ?_ | refine oC (gN rfl rfl rfl (op_not rfl rfl)) ?_
  all_goals refine oC (oQ rfl rfl rfl rfl) ?_
  all_goals first | refine oC (oA rfl (Conv.of rfl) rfl) ?_ | refine oC (op_asl rfl rfl rfl rfl) ?_ | refine oC (op_aso rfl rfl rfl rfl) ?_
  all_goals refine oN ?_
  all_goals refine aT ?_
  all_goals refine finP (.v rfl (Conv.of rfl)) rfl ?_
  all_goals simp_all [FV.av]
end Go.Proofs.YtmhmeppocbcmeaaGreat

/- The reference: certificates are looked at. -/
set_option linter.unusedVariables false
set_option linter.unusedSimpArgs false
namespace Go.Proofs.YtmhmeppocbcmeaaGreat
open Go Go.Wt
set_option maxHeartbeats 1000000 in
theorem votersFor_ct (l : List Vote) (c : List Itm) : CtP Tryz.prog 144 [.v l, .v c] (.v (vfS l c)) := by
  unfold vfS
  refine Ct.intro Tryz.func144 rfl rfl ?_
  refine aS (aR ?_)
  refine oC (oA rfl (Conv.of rfl) rfl) ?_
  refine oN ?_
  refine aS (aR ?_)
  refine oC (op_bsl sl93 z3 (.nil _) rfl (by decide) rfl) ?_
  refine oC (op_asl rfl rfl rfl rfl) ?_
  refine oN ?_
  refine aS (aS (aR ?_))
  refine oC (oM rfl (Conv.of rfl) rfl) ?_
  refine oC (oL fb51 (.cons rfl (Conv.of rfl) (.nil _)) (sVotesOk_ct _) (aK rfl rfl aK0) rfl rfl) ?_
  refine oC (op_not rfl rfl) ?_
  refine oN ?_
  refine aC rfl (fun h => ?_) (fun h => ?_)
  · rw [if_neg (by rw [not_t h]; decide)]
    refine aS (aR ?_)
    refine oC (op_mvl rfl rfl rfl rfl) ?_
    refine oC (op_asl rfl rfl rfl rfl) ?_
    refine oN ?_
    refine aT ?_
    repeat first | refine rS ?_ | refine rB ?_
    exact finP (.v rfl Conv.ol) rfl rfl
  rw [if_pos (not_f h)]
  refine aW ?_
  refine aS (aS (aR ?_))
  refine oC (oA rfl (Conv.of rfl) rfl) ?_
  refine oN ?_
  refine aB ?_
  refine awp_loop' (fun n_ s => ∃ (k : Nat), ∃ (hk : n_ + k = 4), s = mkSt 26 [(0, .v l), (1, .v c), (5, .v (OList.mk ((([1, 2, 3, 4] : List Int).take k).filter fun n => decide (Vote.mk n c ∈ l)) true)), (6, .v ((k : Int) + 1))] []) (4) ⟨0, by omega, rfl⟩ (Le.mk rfl (tle rfl (rfl) rfl (tle rfl (rfl) rfl (tle rfl (by rfl) rfl (tle rfl (rfl) rfl tln)))) oln noS) ?_
  rintro n_ s ⟨k, hk, rfl⟩
  have hfl : (((([1, 2, 3, 4] : List Int).take k).filter fun n => decide (Vote.mk n c ∈ l))).length ≤ 4 := Nat.le_trans (List.length_filter_le _ _) (by simp; omega)
  refine aS (aS (aR ?_))
  refine oC (oM rfl (Conv.of rfl) rfl) ?_
  refine oC (op_leq rfl rfl rfl) ?_
  refine oN ?_
  refine aC rfl (fun h2 => ?_) (fun h2 => ?_)
  · have hk4 : k < 4 := by
      have h0 : (k : Int) + 1 ≤ 4 := of_decide_eq_true h2
      omega
    have hx : ([1, 2, 3, 4] : List Int)[k]? = some ((k : Int) + 1) := by
      have : k = 0 ∨ k = 1 ∨ k = 2 ∨ k = 3 := by omega
      rcases this with e | e | e | e <;> subst e <;> rfl
    refine aW ?_
    refine aS (aB ?_)
    refine aS (aR ?_)
    refine oC (oM rfl (Conv.of rfl) rfl) ?_
    refine oC (oM rfl (Conv.of rfl) rfl) ?_
    refine oC (oM rfl (Conv.of rfl) rfl) ?_
    refine oC (op_build (.cons f38_0 rfl (Conv.of rfl) (.cons f38_1 rfl (Conv.of rfl) (.nil _))) z38 rfl pl38 rfl) ?_
    refine oC (oL fb106 (.cons rfl (Conv.of rfl) (.cons rfl (Conv.of rfl) (.nil _))) (l3Has_ct _ _) (aK rfl rfl (aK rfl rfl aK0)) rfl rfl) ?_
    refine oN ?_
    refine aC rfl (fun h3 => ?_) (fun h3 => ?_)
    · have hm : (Vote.mk ((k : Int) + 1) c ∈ l) := of_decide_eq_true h3
      refine aR ?_
      refine oC (op_mvl rfl rfl rfl rfl) ?_
      refine oC (oM rfl (Conv.of rfl) rfl) ?_
      refine oC (op_bsl sl93 z3 (.cons rfl (Conv.of rfl) (.nil _)) rfl (by decide) rfl) ?_
      refine oC (op_app sl93 z3 ul93 rfl rfl rfl (by (simp only [List.length_cons, List.length_nil]; omega)) (by (simp only [List.length_cons, List.length_nil]; omega)) rfl rfl) ?_
      refine oC (op_asl rfl rfl rfl rfl) ?_
      refine oN ?_
      refine aR ?_
      refine oC (oM rfl (Conv.of rfl) rfl) ?_
      refine oC (oP rfl rfl rfl (by omega)) ?_
      refine oC (oA rfl (Conv.of rfl) rfl) ?_
      refine oN ?_
      repeat first | refine nS ?_ | refine nB ?_
      exact ⟨n_ - 1, _, by omega, ⟨k + 1, by omega, rfl⟩, Le.mk rfl (tle rfl (rfl) rfl (tle rfl (rfl) rfl (tle rfl (by (rw [take_at hx, List.filter_append]; simp [hm])) rfl (tle rfl (rfl) rfl tln)))) oln noS⟩
    · have hm : ¬ (Vote.mk ((k : Int) + 1) c ∈ l) := of_decide_eq_false h3
      refine aW ?_
      refine aR ?_
      refine oC (oM rfl (Conv.of rfl) rfl) ?_
      refine oC (oP rfl rfl rfl (by omega)) ?_
      refine oC (oA rfl (Conv.of rfl) rfl) ?_
      refine oN ?_
      repeat first | refine nS ?_ | refine nB ?_
      exact ⟨n_ - 1, _, by omega, ⟨k + 1, by omega, rfl⟩, Le.mk rfl (tle rfl (rfl) rfl (tle rfl (rfl) rfl (tle rfl (by (rw [take_at hx, List.filter_append]; simp [hm])) rfl (tle rfl (rfl) rfl tln)))) oln noS⟩
  · refine aE ?_
    repeat refine ex_seq ?_
    refine eB ?_
    have hk4 : k = 4 := by
      have h0 : ¬ (k : Int) + 1 ≤ 4 := of_decide_eq_false h2
      omega
    subst hk4
    refine aS (aR ?_)
    refine oC (op_mvl rfl rfl rfl rfl) ?_
    refine oC (op_asl rfl rfl rfl rfl) ?_
    refine oN ?_
    refine aT ?_
    repeat first | refine rS ?_ | refine rB ?_
    exact finP (.v rfl Conv.ol) rfl rfl
set_option maxHeartbeats 1000000 in
theorem l13By_ct (l : List Int) : CtP Tryz.prog 105 [.v l] (.v (votersOk l)) := by
  refine Ct.intro Tryz.func105 rfl rfl ?_
  refine awp_bigL 0 rfl (fun hB => ?_)
  all_goals refine aS (aR ?_)
  all_goals refine oC (oA rfl (Conv.of rfl) rfl) ?_
  all_goals refine oN ?_
  all_goals refine aS (aS (aR ?_))
  all_goals refine oC (oA rfl (Conv.of rfl) rfl) ?_
  all_goals refine oN ?_
  refine aB ?_
  refine awp_loop' (fun n_ s => ∃ (k : Nat), ∃ (p : Int), ∃ (hn : n_ + k = l.length), ∃ (hp : (k = 0 ∧ p = 0) ∨ (0 < k ∧ l[k - 1]? = some p)), ∃ (he : votersOkFrom p (l.drop k) = votersOkFrom 0 l), s = mkSt 35 [(0, .v l), (3, .v (k : Int))] []) (l.length) ⟨0, 0, by omega, .inl ⟨rfl, rfl⟩, rfl, rfl⟩ (Le.mk rfl (tle rfl (rfl) rfl (tle rfl (rfl) rfl tln)) oln noS) ?_
  rintro n_ s ⟨k, p, hn, hp, he, rfl⟩
  all_goals refine aS (aS (aR ?_))
  all_goals refine oC (oM rfl (Conv.of rfl) rfl) ?_
  all_goals refine oC (oM rfl (Conv.of rfl) rfl) ?_
  all_goals refine oC (oE sl93 rfl rfl) ?_
  all_goals refine oC (oLt rfl rfl rfl) ?_
  all_goals refine oN ?_
  refine aC rfl (fun h => ?_) (fun h => ?_)
  · have hlt : k < l.length := by simpa using h
    have hx : l[k]? = some l[k] := List.getElem?_eq_getElem hlt
    generalize l[k] = x at hx
    have hx' : l[(k : Int).toNat]? = some x := hx
    have hs := votersOk_at (p := p) hx
    have hgo : (within x 1 4 && decide (p < x)) = true → votersOkFrom x (l.drop (k + 1)) = votersOkFrom 0 l := fun e => by rw [← he, hs, e]; rfl
    have hno : (within x 1 4 && decide (p < x)) = false → votersOkFrom 0 l = false := fun e => by rw [← he, hs, e]; rfl
    refine aW ?_
    refine aS (aB ?_)
    rcases hp with ⟨hk0, hp0⟩ | ⟨hk0, hp0⟩
    · subst hk0 hp0
      have hw : within x 1 4 = true → 0 < x := fun e => by simp [within] at e; omega
      refine aST (s' := mkSt 35 [(0, .v l), (3, .v ((0 : Nat) : Int)), (31, .v (!(within x 1 4 && decide (0 < x))))] []) ?_ ?_
      · all_goals refine dS ?_
        all_goals refine dC (oM rfl (Conv.of rfl) rfl) ?_
        all_goals refine dC (oM rfl (Conv.of rfl) rfl) ?_
        all_goals refine dC (op_ix sl93 rfl rfl rfl (by omega) hx) ?_
        all_goals refine dC (oDR ty3 rfl rfl) ?_
        all_goals refine dC (oL fb50 (.cons rfl (Conv.of rfl) (.cons rfl (Conv.of rfl) (.cons rfl (Conv.of rfl) (.nil _)))) (l6In_ct _ _ _) (aK rfl rfl (aK rfl rfl (aK rfl rfl aK0))) rfl rfl) ?_
        all_goals refine dC (op_not rfl rfl) ?_
        all_goals refine dC (oM rfl (Conv.of rfl) rfl) ?_
        all_goals refine dr_split (t := 16) rfl (fun h => ?_) (fun h => ?_)
        all_goals first | refine dC (gF rfl rfl rfl rfl rfl) ?_ | refine dC (gN rfl rfl rfl (oM rfl (Conv.of rfl) rfl)) ?_
        all_goals first | refine dC (gF rfl rfl rfl rfl rfl) ?_ | refine dC (gN rfl rfl rfl (op_gtr rfl rfl rfl)) ?_
        all_goals first | refine dC (gF rfl rfl rfl rfl rfl) ?_ | refine dC (gN rfl rfl rfl (oM rfl (Conv.of rfl) rfl)) ?_
        all_goals first | refine dr_lit (t := 19) (b := false) rfl ?_ | refine dr_ulit (t := 19) rfl ?_
        all_goals first | refine dC (gF rfl rfl rfl rfl rfl) ?_ | refine dC (g_und rfl rfl rfl) ?_
        all_goals first | refine dC (gF rfl rfl rfl rfl rfl) ?_ | refine dC (g_und rfl rfl rfl) ?_
        all_goals first | refine dC (gF rfl rfl rfl rfl rfl) ?_ | refine dC (g_und rfl rfl rfl) ?_
        all_goals first | refine dC (gF rfl rfl rfl rfl rfl) ?_ | refine dC (g_und rfl rfl rfl) ?_
        all_goals first | refine dC (gF rfl rfl rfl rfl rfl) ?_ | refine dC (g_und rfl rfl rfl) ?_
        all_goals first | refine dC (gF rfl rfl rfl rfl rfl) ?_ | refine dC (g_und rfl rfl rfl) ?_
        all_goals first | refine dC (gF rfl rfl rfl rfl rfl) ?_ | refine dC (g_und rfl rfl rfl) ?_
        all_goals first | refine dC (gF rfl rfl rfl rfl rfl) ?_ | refine dC (g_und rfl rfl rfl) ?_
        all_goals first | refine dC (gF rfl rfl rfl rfl rfl) ?_ | refine dC (g_und rfl rfl rfl) ?_
        all_goals first | refine dC (gF rfl rfl rfl rfl rfl) ?_ | refine dC (g_und rfl rfl rfl) ?_
        all_goals first | refine dC (gF rfl rfl rfl rfl rfl) ?_ | refine dC (gN rfl rfl rfl (oQ rfl rfl rfl rfl)) ?_
        all_goals refine dC (oQ rfl rfl rfl rfl) ?_
        all_goals refine dr_nil mixed rfl ?_
        all_goals exact Le.mk rfl (tle rfl (rfl) rfl (tle rfl (rfl) rfl (tle rfl (by (show AV.v _ = AV.v _; simp_all)) rfl tln))) oln noS
      refine aC rfl (fun h3 => ?_) (fun h3 => ?_)
      · all_goals refine aS (aR ?_)
        all_goals refine oC (oA rfl (Conv.of rfl) rfl) ?_
        all_goals refine oN ?_
        refine aT ?_
        repeat first | refine rS ?_ | refine rB ?_
        refine finP (.v rfl (Conv.of rfl)) rfl ?_
        show AV.v false = _
        rw [votersOk, hno (not_t h3)]; rfl
      · refine aW ?_
        all_goals refine aR ?_
        all_goals refine oC (oM rfl (Conv.of rfl) rfl) ?_
        all_goals refine oC (oP rfl rfl rfl (by omega)) ?_
        all_goals refine oC (oA rfl (Conv.of rfl) rfl) ?_
        all_goals refine oN ?_
        repeat first | refine nS ?_ | refine nB ?_
        exact ⟨n_ - 1, _, by omega, ⟨0 + 1, x, by omega, .inr ⟨by omega, hx⟩, hgo (not_f h3), rfl⟩, Le.mk rfl (tle rfl (rfl) rfl (tle rfl (rfl) rfl tln)) oln noS⟩
    · have hp1 : l[((k : Int) - 1).toNat]? = some p := by rw [show ((k : Int) - 1).toNat = k - 1 by omega]; exact hp0
      refine aST (s' := mkSt 35 [(0, .v l), (3, .v (k : Int)), (31, .v (!(within x 1 4 && decide (p < x))))] []) ?_ ?_
      · all_goals refine dS ?_
        all_goals refine dC (oM rfl (Conv.of rfl) rfl) ?_
        all_goals refine dC (oM rfl (Conv.of rfl) rfl) ?_
        all_goals refine dC (op_ix sl93 rfl rfl rfl (by omega) hx') ?_
        all_goals refine dC (oDR ty3 rfl rfl) ?_
        all_goals refine dC (oL fb50 (.cons rfl (Conv.of rfl) (.cons rfl (Conv.of rfl) (.cons rfl (Conv.of rfl) (.nil _)))) (l6In_ct _ _ _) (aK rfl rfl (aK rfl rfl (aK rfl rfl aK0))) rfl rfl) ?_
        all_goals refine dC (op_not rfl rfl) ?_
        all_goals refine dC (oM rfl (Conv.of rfl) rfl) ?_
        all_goals refine dr_split (t := 16) rfl (fun h => ?_) (fun h => ?_)
        all_goals first | refine dC (gF rfl rfl rfl rfl rfl) ?_ | refine dC (gN rfl rfl rfl (oM rfl (Conv.of rfl) rfl)) ?_
        all_goals first | refine dC (gF rfl rfl rfl rfl rfl) ?_ | refine dC (gN rfl rfl rfl (op_gtr rfl rfl rfl)) ?_
        all_goals first | refine dC (gF rfl rfl rfl rfl rfl) ?_ | refine dC (gN rfl rfl rfl (oM rfl (Conv.of rfl) rfl)) ?_
        all_goals first | refine dr_ulit (t := 19) rfl ?_ | refine dr_split (t := 19) rfl (fun h => ?_) (fun h => ?_)
        all_goals first | refine dC (gF rfl rfl rfl rfl rfl) ?_ | refine dC (g_und rfl rfl rfl) ?_ | refine dC (gN rfl rfl rfl (oM rfl (Conv.of rfl) rfl)) ?_
        all_goals first | refine dC (gF rfl rfl rfl rfl rfl) ?_ | refine dC (g_und rfl rfl rfl) ?_ | refine dC (gN rfl rfl rfl (oM rfl (Conv.of rfl) rfl)) ?_
        all_goals first | refine dC (gF rfl rfl rfl rfl rfl) ?_ | refine dC (g_und rfl rfl rfl) ?_ | refine dC (gN rfl rfl rfl (op_sub rfl rfl rfl (by omega))) ?_
        all_goals first | refine dC (gF rfl rfl rfl rfl rfl) ?_ | refine dC (g_und rfl rfl rfl) ?_ | refine dC (gN rfl rfl rfl (op_ix sl93 rfl rfl rfl (by omega) hp1)) ?_
        all_goals first | refine dC (gF rfl rfl rfl rfl rfl) ?_ | refine dC (g_und rfl rfl rfl) ?_ | refine dC (gN rfl rfl rfl (oDR ty3 rfl rfl)) ?_
        all_goals first | refine dC (gF rfl rfl rfl rfl rfl) ?_ | refine dC (g_und rfl rfl rfl) ?_ | refine dC (gN rfl rfl rfl (oM rfl (Conv.of rfl) rfl)) ?_
        all_goals first | refine dC (gF rfl rfl rfl rfl rfl) ?_ | refine dC (g_und rfl rfl rfl) ?_ | refine dC (gN rfl rfl rfl (oM rfl (Conv.of rfl) rfl)) ?_
        all_goals first | refine dC (gF rfl rfl rfl rfl rfl) ?_ | refine dC (g_und rfl rfl rfl) ?_ | refine dC (gN rfl rfl rfl (op_ix sl93 rfl rfl rfl (by omega) hx')) ?_
        all_goals first | refine dC (gF rfl rfl rfl rfl rfl) ?_ | refine dC (g_und rfl rfl rfl) ?_ | refine dC (gN rfl rfl rfl (oDR ty3 rfl rfl)) ?_
        all_goals first | refine dC (gF rfl rfl rfl rfl rfl) ?_ | refine dC (g_und rfl rfl rfl) ?_ | refine dC (gN rfl rfl rfl (op_geq rfl rfl rfl)) ?_
        all_goals first | refine dC (gF rfl rfl rfl rfl rfl) ?_ | refine dC (gN rfl rfl rfl (oQ rfl rfl rfl rfl)) ?_
        all_goals refine dC (oQ rfl rfl rfl rfl) ?_
        all_goals refine dr_nil mixed rfl ?_
        all_goals exact Le.mk rfl (tle rfl (rfl) rfl (tle rfl (rfl) rfl (tle rfl (by (show AV.v _ = AV.v _; simp_all; try (rw [Bool.eq_iff_iff]; simp); try omega)) rfl tln))) oln noS
      refine aC rfl (fun h3 => ?_) (fun h3 => ?_)
      · all_goals refine aS (aR ?_)
        all_goals refine oC (oA rfl (Conv.of rfl) rfl) ?_
        all_goals refine oN ?_
        refine aT ?_
        repeat first | refine rS ?_ | refine rB ?_
        refine finP (.v rfl (Conv.of rfl)) rfl ?_
        show AV.v false = _
        rw [votersOk, hno (not_t h3)]; rfl
      · refine aW ?_
        all_goals refine aR ?_
        all_goals refine oC (oM rfl (Conv.of rfl) rfl) ?_
        all_goals refine oC (oP rfl rfl rfl (by omega)) ?_
        all_goals refine oC (oA rfl (Conv.of rfl) rfl) ?_
        all_goals refine oN ?_
        repeat first | refine nS ?_ | refine nB ?_
        exact ⟨n_ - 1, _, by omega, ⟨k + 1, x, by omega, .inr ⟨by omega, hx⟩, hgo (not_f h3), rfl⟩, Le.mk rfl (tle rfl (rfl) rfl (tle rfl (rfl) rfl tln)) oln noS⟩
  · refine aE ?_
    repeat refine ex_seq ?_
    refine eB ?_
    have hk : l.length ≤ k := by simpa using h
    rw [drop_end hk] at he
    all_goals refine aS (aR ?_)
    all_goals refine oC (oM rfl (Conv.of rfl) rfl) ?_
    all_goals refine oC (oE sl93 rfl rfl) ?_
    all_goals refine oC (op_geq rfl rfl rfl) ?_
    all_goals refine oC (oA rfl (Conv.of rfl) rfl) ?_
    all_goals refine oN ?_
    refine aT ?_
    repeat first | refine rS ?_ | refine rB ?_
    refine finP (.v rfl (Conv.of rfl)) rfl ?_
    show AV.v _ = AV.v _
    congr 1
    rw [votersOk, ← he]
    simp [votersOkFrom]
    try omega
set_option maxHeartbeats 2000000 in
theorem sCertOk_ct (c : Cert) : CtP Tryz.prog 47 [.v c] (.v (certOk c)) := by
  refine Ct.intro Tryz.func47 rfl rfl ?_
  all_goals refine aS (aR ?_)
  all_goals refine oC (op_box (o := 0) ty30 rfl (Conv.of rfl) rfl rfl) ?_
  all_goals refine oC (oA rfl (Conv.of rfl) rfl) ?_
  all_goals refine oN ?_
  all_goals refine aS (aR ?_)
  all_goals refine oC (oF f30_0 rfl rfl) ?_
  all_goals refine oC (oD ty27 rfl rfl rfl) ?_
  all_goals refine oC (oE sl27 rfl rfl) ?_
  all_goals refine oC (oA rfl (Conv.of rfl) rfl) ?_
  all_goals refine oN ?_
  refine aS (aST (s' := mkSt 67 [(1, .box 0 (IsLens.whole Cert)), (3, .v (c.chain.length : Int)), (21, .v (!(chainOk c.chain && decide (3 ≤ c.chain.length) && decide (c.by_.length = 3))))] [(0, .cell c)]) ?_ ?_)
  · all_goals refine aR ?_
    all_goals refine oC (oF f30_0 rfl rfl) ?_
    all_goals refine oC (oD ty27 rfl rfl rfl) ?_
    all_goals refine oC (oL fb104 (.cons rfl (Conv.of rfl) (.nil _)) (sChainOk_ct _) (aK rfl rfl aK0) rfl rfl) ?_
    all_goals refine oC (op_not rfl rfl) ?_
    all_goals refine oC (oM rfl (Conv.of rfl) rfl) ?_
    all_goals refine g_split (t := 12) rfl (fun h => ?_) (fun h => ?_)
    all_goals first | refine oC (gF rfl rfl rfl rfl rfl) ?_ | refine oC (gN rfl rfl rfl (oM rfl (Conv.of rfl) rfl)) ?_
    all_goals first | refine oC (gF rfl rfl rfl rfl rfl) ?_ | refine oC (gN rfl rfl rfl (oLt rfl rfl rfl)) ?_
    all_goals refine oC (oQ rfl rfl rfl rfl) ?_
    all_goals refine oC (oM rfl (Conv.of rfl) rfl) ?_
    all_goals first | refine g_lit (t := 16) (b := true) rfl ?_ | refine g_split (t := 16) rfl (fun h => ?_) (fun h => ?_)
    all_goals first | refine oC (gF rfl rfl rfl rfl rfl) ?_ | refine oC (gN rfl rfl rfl (oF f30_1 rfl rfl)) ?_
    all_goals first | refine oC (gF rfl rfl rfl rfl rfl) ?_ | refine oC (gN rfl rfl rfl (oD ty28 rfl rfl rfl)) ?_
    all_goals first | refine oC (gF rfl rfl rfl rfl rfl) ?_ | refine oC (gN rfl rfl rfl (oE sl28 rfl rfl)) ?_
    all_goals first | refine oC (gF rfl rfl rfl rfl rfl) ?_ | refine oC (gN rfl rfl rfl (op_neq rfl rfl rfl)) ?_
    all_goals refine oC (oQ rfl rfl rfl rfl) ?_
    all_goals refine oN ?_
    all_goals exact Le.mk rfl (tlb rfl rfl rfl (tle rfl (rfl) rfl (tle rfl (by (show AV.v _ = AV.v _; simp_all; try first | omega | (rw [Bool.eq_iff_iff]; simp; omega))) rfl tln))) (olk rfl (by exact bC) oln) noS
  refine aC rfl (fun h => ?_) (fun h => ?_)
  · all_goals refine aS (aR ?_)
    all_goals refine oC (oA rfl (Conv.of rfl) rfl) ?_
    all_goals refine oN ?_
    refine aT ?_
    repeat first | refine rS ?_ | refine rB ?_
    refine finP (.v rfl (Conv.of rfl)) rfl ?_
    show AV.v false = _
    have h' := not_t h
    simp only [certOk]
    simp_all
  have h' := not_f h
  simp only [Bool.and_eq_true, decide_eq_true_eq] at h'
  obtain ⟨⟨hco, h3⟩, hb3⟩ := h'
  have hcl := chainOk_len hco
  have hep := chainOk_ep hco
  refine aW ?_
  all_goals refine aS (aS (aR ?_))
  all_goals refine oC (oA rfl (Conv.of rfl) rfl) ?_
  all_goals refine oN ?_
  refine aB ?_
  refine awp_loop' (fun n_ s => ∃ (k : Nat), ∃ (hk : n_ + k = 3), ∃ (ha : (c.by_.take k).all votersOk = true), s = mkSt 67 [(1, .box 0 (IsLens.whole Cert)), (3, .v (c.chain.length : Int)), (4, .v (k : Int))] [(0, .cell c)]) (3) ⟨0, by omega, rfl, rfl⟩ (Le.mk rfl (tlb rfl rfl rfl (tle rfl (rfl) rfl (tle rfl (rfl) rfl tln))) (olk rfl (by exact bC) oln) noS) ?_
  rintro n_ s ⟨k, hk, ha, rfl⟩
  all_goals refine aS (aS (aR ?_))
  all_goals refine oC (oM rfl (Conv.of rfl) rfl) ?_
  all_goals refine oC (oLt rfl rfl rfl) ?_
  all_goals refine oN ?_
  refine aC rfl (fun h2 => ?_) (fun h2 => ?_)
  · have hk3 : k < 3 := by
      have h0 : (k : Int) < 3 := of_decide_eq_true h2
      omega
    have hx : c.by_[k]? = some (c.by_[k]'(by omega)) := List.getElem?_eq_getElem (by omega)
    generalize c.by_[k]'(by omega) = b at hx
    have hx' : c.by_[(k : Int).toNat]? = some b := hx
    refine aW ?_
    refine aS (aB ?_)
    all_goals refine aS (aR ?_)
    all_goals refine oC (oF f30_1 rfl rfl) ?_
    all_goals refine oC (oD ty28 rfl rfl rfl) ?_
    all_goals refine oC (oM rfl (Conv.of rfl) rfl) ?_
    all_goals refine oC (op_ix sl28 rfl rfl rfl (by omega) hx') ?_
    all_goals refine oC (oDR ty93 rfl rfl) ?_
    all_goals refine oC (oL fb105 (.cons rfl (Conv.of rfl) (.nil _)) (l13By_ct _) (aK rfl rfl aK0) rfl rfl) ?_
    all_goals refine oC (op_not rfl rfl) ?_
    all_goals refine oN ?_
    refine aC rfl (fun h4 => ?_) (fun h4 => ?_)
    · have hnb := not_t h4
      all_goals refine aS (aR ?_)
      all_goals refine oC (oA rfl (Conv.of rfl) rfl) ?_
      all_goals refine oN ?_
      refine aT ?_
      repeat first | refine rS ?_ | refine rB ?_
      refine finP (.v rfl (Conv.of rfl)) rfl ?_
      show AV.v false = AV.v (certOk c)
      congr 1
      have hall : c.by_.all votersOk = false := by
        rw [List.all_eq_false]
        exact ⟨b, List.mem_of_getElem? hx, by rw [hnb]; decide⟩
      simp only [certOk, hall, Bool.and_false]
    · have hyb := not_f h4
      refine aW ?_
      all_goals refine aR ?_
      all_goals refine oC (oM rfl (Conv.of rfl) rfl) ?_
      all_goals refine oC (oP rfl rfl rfl (by omega)) ?_
      all_goals refine oC (oA rfl (Conv.of rfl) rfl) ?_
      all_goals refine oN ?_
      repeat first | refine nS ?_ | refine nB ?_
      exact ⟨n_ - 1, _, by omega, ⟨k + 1, by omega, (by rw [take_at hx, List.all_append, ha]; simp [hyb]), rfl⟩, Le.mk rfl (tlb rfl rfl rfl (tle rfl (rfl) rfl (tle rfl (rfl) rfl tln))) (olk rfl (by exact bC) oln) noS⟩
  · refine aE ?_
    repeat refine ex_seq ?_
    refine eB ?_
    have hk3 : k = 3 := by
      have h0 : ¬ (k : Int) < 3 := of_decide_eq_false h2
      omega
    subst hk3
    rw [take_end (by omega)] at ha
    have hx : c.chain[c.chain.length - 3]? = some (c.chain[c.chain.length - 3]'(by omega)) := List.getElem?_eq_getElem (by omega)
    have hy : c.chain[c.chain.length - 2]? = some (c.chain[c.chain.length - 2]'(by omega)) := List.getElem?_eq_getElem (by omega)
    have hz : c.chain[c.chain.length - 1]? = some (c.chain[c.chain.length - 1]'(by omega)) := List.getElem?_eq_getElem (by omega)
    have ex := hep _ (List.getElem_mem (show c.chain.length - 3 < c.chain.length by omega))
    have ey := hep _ (List.getElem_mem (show c.chain.length - 2 < c.chain.length by omega))
    generalize c.chain[c.chain.length - 3]'(by omega) = x at hx ex
    generalize c.chain[c.chain.length - 2]'(by omega) = y at hy ey
    generalize c.chain[c.chain.length - 1]'(by omega) = z at hz
    have hl := finLen_last h3 hx hy hz
    have hx' : c.chain[((c.chain.length : Int) - 3).toNat]? = some x := by rw [show ((c.chain.length : Int) - 3).toNat = c.chain.length - 3 by omega]; exact hx
    have hy' : c.chain[((c.chain.length : Int) - 2).toNat]? = some y := by rw [show ((c.chain.length : Int) - 2).toNat = c.chain.length - 2 by omega]; exact hy
    have hz' : c.chain[((c.chain.length : Int) - 1).toNat]? = some z := by rw [show ((c.chain.length : Int) - 1).toNat = c.chain.length - 1 by omega]; exact hz
    have hco2 : certOk c = (decide (x.epoch + 1 = y.epoch) && decide (y.epoch + 1 = z.epoch)) := by
      simp only [certOk, hco, ha, hl, hb3]
      simp [h3]
    rw [hco2]
    refine aST (s' := mkSt 67 [(2, .v (decide (x.epoch + 1 = y.epoch) && decide (y.epoch + 1 = z.epoch)))] []) ?_ ?_
    · all_goals refine dS ?_
      all_goals refine dC (oF f30_0 rfl rfl) ?_
      all_goals refine dC (oD ty27 rfl rfl rfl) ?_
      all_goals refine dC (oM rfl (Conv.of rfl) rfl) ?_
      all_goals refine dC (op_sub rfl rfl rfl (by omega)) ?_
      all_goals refine dC (op_ix sl27 rfl rfl rfl (by omega) hx') ?_
      all_goals refine dC (oFR f143_0 rfl rfl) ?_
      all_goals refine dC (oDR ty3 rfl rfl) ?_
      all_goals refine dC (oP rfl rfl rfl (by omega)) ?_
      all_goals refine dC (oF f30_0 rfl rfl) ?_
      all_goals refine dC (oD ty27 rfl rfl rfl) ?_
      all_goals refine dC (oM rfl (Conv.of rfl) rfl) ?_
      all_goals refine dC (op_sub rfl rfl rfl (by omega)) ?_
      all_goals refine dC (op_ix sl27 rfl rfl rfl (by omega) hy') ?_
      all_goals refine dC (oFR f143_0 rfl rfl) ?_
      all_goals refine dC (oDR ty3 rfl rfl) ?_
      all_goals refine dC (op_eql rfl rfl rfl) ?_
      all_goals refine dC (oM rfl (Conv.of rfl) rfl) ?_
      all_goals refine dr_split (t := 49) rfl (fun h => ?_) (fun h => ?_)
      all_goals first | refine dC (gF rfl rfl rfl rfl rfl) ?_ | refine dC (gN rfl rfl rfl (oF f30_0 rfl rfl)) ?_
      all_goals first | refine dC (gF rfl rfl rfl rfl rfl) ?_ | refine dC (gN rfl rfl rfl (oD ty27 rfl rfl rfl)) ?_
      all_goals first | refine dC (gF rfl rfl rfl rfl rfl) ?_ | refine dC (gN rfl rfl rfl (oM rfl (Conv.of rfl) rfl)) ?_
      all_goals first | refine dC (gF rfl rfl rfl rfl rfl) ?_ | refine dC (gN rfl rfl rfl (op_sub rfl rfl rfl (by omega))) ?_
      all_goals first | refine dC (gF rfl rfl rfl rfl rfl) ?_ | refine dC (gN rfl rfl rfl (op_ix sl27 rfl rfl rfl (by omega) hy')) ?_
      all_goals first | refine dC (gF rfl rfl rfl rfl rfl) ?_ | refine dC (gN rfl rfl rfl (oFR f143_0 rfl rfl)) ?_
      all_goals first | refine dC (gF rfl rfl rfl rfl rfl) ?_ | refine dC (gN rfl rfl rfl (oDR ty3 rfl rfl)) ?_
      all_goals first | refine dC (gF rfl rfl rfl rfl rfl) ?_ | refine dC (gN rfl rfl rfl (oP rfl rfl rfl (by omega))) ?_
      all_goals first | refine dC (gF rfl rfl rfl rfl rfl) ?_ | refine dC (gN rfl rfl rfl (oF f30_0 rfl rfl)) ?_
      all_goals first | refine dC (gF rfl rfl rfl rfl rfl) ?_ | refine dC (gN rfl rfl rfl (oD ty27 rfl rfl rfl)) ?_
      all_goals first | refine dC (gF rfl rfl rfl rfl rfl) ?_ | refine dC (gN rfl rfl rfl (oM rfl (Conv.of rfl) rfl)) ?_
      all_goals first | refine dC (gF rfl rfl rfl rfl rfl) ?_ | refine dC (gN rfl rfl rfl (op_sub rfl rfl rfl (by omega))) ?_
      all_goals first | refine dC (gF rfl rfl rfl rfl rfl) ?_ | refine dC (gN rfl rfl rfl (op_ix sl27 rfl rfl rfl (by omega) hz')) ?_
      all_goals first | refine dC (gF rfl rfl rfl rfl rfl) ?_ | refine dC (gN rfl rfl rfl (oFR f143_0 rfl rfl)) ?_
      all_goals first | refine dC (gF rfl rfl rfl rfl rfl) ?_ | refine dC (gN rfl rfl rfl (oDR ty3 rfl rfl)) ?_
      all_goals first | refine dC (gF rfl rfl rfl rfl rfl) ?_ | refine dC (gN rfl rfl rfl (op_eql rfl rfl rfl)) ?_
      all_goals refine dC (oQ rfl rfl rfl rfl) ?_
      all_goals refine dC (oA rfl (Conv.of rfl) rfl) ?_
      all_goals refine dr_nil mixed rfl ?_
      all_goals exact Le.mk rfl (tle rfl (by (show AV.v _ = AV.v _; simp_all; try (rw [Bool.eq_iff_iff]; simp))) rfl tln) oln noS
    refine aT ?_
    repeat first | refine rS ?_ | refine rB ?_
    exact finP (.v rfl (Conv.of rfl)) rfl rfl
set_option maxHeartbeats 2000000 in
theorem sCertVotes_ct (c : Cert) : CtP Tryz.prog 49 [.v c] (.v (certVotes c)) := by
  cases hc : certOk c with
  | false =>
    have e : certVotes c = [] := by unfold certVotes; rw [hc]; rfl
    rw [e]
    refine Ct.intro Tryz.func49 rfl rfl ?_
    refine aS (aR ?_)
    refine oC (op_box (o := 0) ty30 rfl (Conv.of rfl) rfl rfl) ?_
    refine oC (oA rfl (Conv.of rfl) rfl) ?_
    refine oN ?_
    refine aS (aR ?_)
    refine oC (op_bsl sl24 z38 (.nil _) rfl (by decide) rfl) ?_
    refine oC (op_asl rfl rfl rfl rfl) ?_
    refine oN ?_
    refine aS (aS (aR ?_))
    refine oC (oD ty30 rfl rfl rfl) ?_
    refine oC (oL fb47 (.cons rfl (Conv.of rfl) (.nil _)) (sCertOk_ct _) (aK rfl rfl aK0) rfl rfl) ?_
    refine oC (op_not rfl rfl) ?_
    refine oN ?_
    refine aC rfl (fun h => ?_) (fun h => absurd (not_f h) (by rw [hc]; decide))
    refine aS (aR ?_)
    refine oC (op_mvl rfl rfl rfl rfl) ?_
    refine oC (op_asl rfl rfl rfl rfl) ?_
    refine oN ?_
    refine aT ?_
    repeat first | refine rS ?_ | refine rB ?_
    exact finP (.v rfl Conv.ol) rfl rfl
  | true =>
    have h' := hc
    simp only [certOk, Bool.and_eq_true, decide_eq_true_eq] at h'
    have hl := chainOk_len h'.1.1.1.1
    have h3 := h'.1.1.1.2
    have hb3 := h'.1.2
    have hvo : ∀ x ∈ c.by_, x.length ≤ 4 := fun x hx => votersOk_len (by have := h'.2; rw [List.all_eq_true] at this; exact this x hx)
    have hcv : certVotes c = votesAt c.chain 0 c.by_ := by unfold certVotes; rw [if_pos hc]
    have hvl : ∀ k, (votesAt c.chain 0 (c.by_.take k)).length ≤ 12 := fun k => by
      have := votesAt_len c.chain (c.by_.take k) 0 (fun x hx => hvo x (List.mem_of_mem_take hx))
      rw [List.length_take] at this; omega
    refine Ct.intro Tryz.func49 rfl rfl ?_
    refine aS (aR ?_)
    refine oC (op_box (o := 0) ty30 rfl (Conv.of rfl) rfl rfl) ?_
    refine oC (oA rfl (Conv.of rfl) rfl) ?_
    refine oN ?_
    refine aS (aR ?_)
    refine oC (op_bsl sl24 z38 (.nil _) rfl (by decide) rfl) ?_
    refine oC (op_asl rfl rfl rfl rfl) ?_
    refine oN ?_
    refine aS (aS (aR ?_))
    refine oC (oD ty30 rfl rfl rfl) ?_
    refine oC (oL fb47 (.cons rfl (Conv.of rfl) (.nil _)) (sCertOk_ct _) (aK rfl rfl aK0) rfl rfl) ?_
    refine oC (op_not rfl rfl) ?_
    refine oN ?_
    refine aC rfl (fun h => absurd (not_t h) (by rw [hc]; decide)) (fun h => ?_)
    refine aW ?_
    refine aS (aR ?_)
    refine oC (oF f30_0 rfl rfl) ?_
    refine oC (oD ty27 rfl rfl rfl) ?_
    refine oC (oE sl27 rfl rfl) ?_
    refine oC (oA rfl (Conv.of rfl) rfl) ?_
    refine oN ?_
    refine aS (aS (aR ?_))
    refine oC (oA rfl (Conv.of rfl) rfl) ?_
    refine oN ?_
    refine aB ?_
    refine awp_loop' (fun n_ s => ∃ (k : Nat), ∃ (hn : n_ + k = 3), s = mkSt 50 [(1, .box 0 (IsLens.whole Cert)), (3, .v (OList.mk (votesAt c.chain 0 (c.by_.take k)) true)), (4, .v (c.chain.length : Int)), (5, .v (k : Int))] [(0, .cell c)]) (3) ⟨0, by omega, rfl⟩ (Le.mk rfl (tlb rfl rfl rfl (tle rfl (by rfl) rfl (tle rfl (rfl) rfl (tle rfl (rfl) rfl tln)))) (olk rfl (by exact bC) oln) noS) ?_
    rintro n_ s ⟨k, hn, rfl⟩
    refine aS (aS (aR ?_))
    refine oC (oM rfl (Conv.of rfl) rfl) ?_
    refine oC (oLt rfl rfl rfl) ?_
    refine oN ?_
    refine aC rfl (fun h4 => ?_) (fun h4 => ?_)
    · have hk3 : k < 3 := by have := of_decide_eq_true h4; omega
      have hx : c.by_[k]? = some (c.by_[k]'(by omega)) := List.getElem?_eq_getElem (by omega)
      have hxl := hvo _ (List.getElem_mem (show k < c.by_.length by omega))
      generalize hlk : c.by_[k]'(by omega) = lk0 at hx hxl
      have hx' : c.by_[(k : Int).toNat]? = some lk0 := hx
      have hpl : c.chain.take ((c.chain.length : Int) - 2 + k).toNat = preC c.chain k := by unfold preC; congr 1; omega
      have hcp : CtP Tryz.prog 107 [.v (c.chain.take ((c.chain.length : Int) - 2 + k).toNat)] (.v (OList.mk (preC c.chain k) true)) := by
        rw [hpl]; exact l1Copy_ct (preC c.chain k) (by unfold preC; rw [List.length_take]; omega)
      have hvk := hvl k
      refine aW ?_
      refine aS (aB ?_)
      refine aS (aR ?_)
      refine oC (oA rfl (Conv.of rfl) rfl) ?_
      refine oN ?_
      refine aB ?_
      refine awp_loop' (fun n_ s => ∃ (j : Nat), ∃ (hj : n_ + j = lk0.length), s = mkSt 50 [(1, .box 0 (IsLens.whole Cert)), (3, .v (OList.mk (votesAt c.chain 0 (c.by_.take k) ++ (lk0.take j).map (fun n => Vote.mk n (preC c.chain k))) true)), (4, .v (c.chain.length : Int)), (5, .v (k : Int)), (6, .v (j : Int))] [(0, .cell c)]) (lk0.length) ⟨0, by omega, rfl⟩ (Le.mk rfl (tlb rfl rfl rfl (tle rfl (by (show AV.v (OList.mk _ true) = AV.v (OList.mk _ true); first | (simp; done) | (rw [take_at hy, List.map_append, List.append_assoc]; rfl))) rfl (tle rfl (rfl) rfl (tle rfl (rfl) rfl (tle rfl (rfl) rfl tln))))) (olk rfl (by exact bC) oln) noS) ?_
      rintro n_ s ⟨j, hj, rfl⟩
      refine aS (aS (aR ?_))
      refine oC (oM rfl (Conv.of rfl) rfl) ?_
      refine oC (oF f30_1 rfl rfl) ?_
      refine oC (oD ty28 rfl rfl rfl) ?_
      refine oC (oM rfl (Conv.of rfl) rfl) ?_
      refine oC (op_ix sl28 rfl rfl rfl (by omega) hx') ?_
      refine oC (oDR ty93 rfl rfl) ?_
      refine oC (oE sl93 rfl rfl) ?_
      refine oC (oLt rfl rfl rfl) ?_
      refine oN ?_
      refine aC rfl (fun h5 => ?_) (fun h5 => ?_)
      · have hjl : j < lk0.length := by have := of_decide_eq_true h5; omega
        have hy : lk0[j]? = some lk0[j] := List.getElem?_eq_getElem hjl
        generalize lk0[j] = m at hy
        have hy' : lk0[(j : Int).toNat]? = some m := hy
        refine aW ?_
        refine aS (aB ?_)
        refine dS ?_
        refine dC (op_mvl rfl rfl rfl rfl) ?_
        refine dC (oF f30_1 rfl rfl) ?_
        refine dC (oD ty28 rfl rfl rfl) ?_
        refine dC (oM rfl (Conv.of rfl) rfl) ?_
        refine dC (op_ix sl28 rfl rfl rfl (by omega) hx') ?_
        refine dC (oDR ty93 rfl rfl) ?_
        refine dC (oM rfl (Conv.of rfl) rfl) ?_
        refine dC (op_ix sl93 rfl rfl rfl (by omega) hy') ?_
        refine dC (oDR ty3 rfl rfl) ?_
        refine dC (oF f30_0 rfl rfl) ?_
        refine dC (oD ty27 rfl rfl rfl) ?_
        refine dC (oM rfl (Conv.of rfl) rfl) ?_
        refine dC (op_sub rfl rfl rfl (by omega)) ?_
        refine dC (oM rfl (Conv.of rfl) rfl) ?_
        refine dC (oP rfl rfl rfl (by omega)) ?_
        refine dC (op_slh sl27 rfl rfl rfl ⟨by omega, by omega⟩) ?_
        refine dC (oL fb107 (.cons rfl (Conv.of rfl) (.nil _)) (hcp) (aK rfl rfl aK0) rfl rfl) ?_
        refine dC (op_build (.cons f38_0 rfl (Conv.of rfl) (.cons f38_1 rfl (Conv.ol) (.nil _))) z38 rfl pl38 rfl) ?_
        refine dC (op_bsl sl24 z38 (.cons rfl (Conv.of rfl) (.nil _)) rfl (by decide) rfl) ?_
        refine dC (op_app sl24 z38 ul24 rfl rfl rfl (by (simp; omega)) (by (simp; omega)) rfl rfl) ?_
        refine dC (op_asl rfl rfl rfl rfl) ?_
        refine dr_nil mixed rfl ?_
        refine aR ?_
        refine oC (oM rfl (Conv.of rfl) rfl) ?_
        refine oC (oP rfl rfl rfl (by omega)) ?_
        refine oC (oA rfl (Conv.of rfl) rfl) ?_
        refine oN ?_
        repeat first | refine nS ?_ | refine nB ?_
        exact ⟨n_ - 1, _, by omega, ⟨j + 1, by omega, rfl⟩, Le.mk rfl (tlb rfl rfl rfl (tle rfl (by (show AV.v (OList.mk _ true) = AV.v (OList.mk _ true); first | (simp; done) | (rw [take_at hy, List.map_append, List.append_assoc]; rfl))) rfl (tle rfl (rfl) rfl (tle rfl (rfl) rfl (tle rfl (rfl) rfl tln))))) (olk rfl (by exact bC) oln) noS⟩
      · refine aE ?_
        repeat refine ex_seq ?_
        refine eB ?_
        have hje : lk0.length ≤ j := by have := of_decide_eq_false h5; omega
        rw [take_end hje]
        refine aR ?_
        refine oC (oM rfl (Conv.of rfl) rfl) ?_
        refine oC (oP rfl rfl rfl (by omega)) ?_
        refine oC (oA rfl (Conv.of rfl) rfl) ?_
        refine oN ?_
        repeat first | refine nS ?_ | refine nB ?_
        exact ⟨3 - (k + 1), _, by omega, ⟨k + 1, by omega, rfl⟩, Le.mk rfl (tlb rfl rfl rfl (tle rfl (by (rw [votesAt_step hx])) rfl (tle rfl (rfl) rfl (tle rfl (rfl) rfl tln)))) (olk rfl (by exact bC) oln) noS⟩
    · refine aE ?_
      repeat refine ex_seq ?_
      refine eB ?_
      have hk3 : c.by_.length ≤ k := by have := of_decide_eq_false h4; omega
      rw [take_end hk3]
      refine aS (aR ?_)
      refine oC (op_mvl rfl rfl rfl rfl) ?_
      refine oC (op_asl rfl rfl rfl rfl) ?_
      refine oN ?_
      refine aT ?_
      repeat first | refine rS ?_ | refine rB ?_
      refine finP (.v rfl Conv.ol) rfl ?_
      show AV.v _ = _
      rw [hcv]
end Go.Proofs.YtmhmeppocbcmeaaGreat

/- What a stranger is shown: both sides. -/
set_option linter.unusedVariables false
set_option linter.unusedSimpArgs false
namespace Go.Proofs.YtmhmeppocbcmeaaGreat
open Go Go.Wt
set_option maxHeartbeats 1000000 in
theorem sWorldShown_ct (w : Wrld) (c : Cert) : CtP Tryz.prog 9 [.v w, .v c] (.v (worldShown w c)) := by
  have e : worldShown w c = (worldOk w && certOk c && !(certVotes c).any fun v => !shownB w v) := by
    rw [any_shown, Bool.not_not, worldShown]
  rw [e]
  refine Ct.intro Tryz.func9 rfl rfl ?_
  all_goals refine aS (aR ?_)
  all_goals refine oC (op_box (o := 0) ty26 rfl (Conv.of rfl) rfl rfl) ?_
  all_goals refine oC (op_box (o := 1) ty30 rfl (Conv.of rfl) rfl rfl) ?_
  all_goals refine oC (oA rfl (Conv.of rfl) rfl) ?_
  all_goals refine oN ?_
  all_goals refine aS (dS ?_)
  all_goals refine dC (oD ty26 rfl rfl rfl) ?_
  all_goals refine dC (oL fb10 (.cons rfl (Conv.of rfl) (.nil _)) (sWorldOk_ct _) (aK rfl rfl aK0) rfl rfl) ?_
  all_goals refine dC (oM rfl (Conv.of rfl) rfl) ?_
  all_goals refine dr_split (t := 7) rfl (fun h => ?_) (fun h => ?_)
  all_goals first | refine dC (gF rfl rfl rfl rfl rfl) ?_ | refine dC (gN rfl rfl rfl (oD ty30 rfl rfl rfl)) ?_
  all_goals first | refine dC (gF rfl rfl rfl rfl rfl) ?_ | refine dC (gN rfl rfl rfl (oL fb47 (.cons rfl (Conv.of rfl) (.nil _)) (sCertOk_ct _) (aK rfl rfl aK0) rfl rfl)) ?_
  all_goals refine dC (oQ rfl rfl rfl rfl) ?_
  all_goals refine dC (oM rfl (Conv.of rfl) rfl) ?_
  all_goals first | refine dr_lit (t := 11) (b := false) rfl ?_ | refine dr_split (t := 11) rfl (fun h => ?_) (fun h => ?_)
  all_goals first | refine dC (gF rfl rfl rfl rfl rfl) ?_ | refine dC (gN rfl rfl rfl (oD ty26 rfl rfl rfl)) ?_
  all_goals first | refine dC (gF rfl rfl rfl rfl rfl) ?_ | refine dC (gN rfl rfl rfl (oD ty30 rfl rfl rfl)) ?_
  all_goals first | refine dC (gF rfl rfl rfl rfl rfl) ?_ | refine dC (gN rfl rfl rfl (oL fb49 (.cons rfl (Conv.of rfl) (.nil _)) (sCertVotes_ct _) (aK rfl rfl aK0) rfl rfl)) ?_
  all_goals first | refine dC (gF rfl rfl rfl rfl rfl) ?_ | refine dC (gN rfl rfl rfl (oL fb48 (.cons rfl (Conv.of rfl) (.cons rfl (Conv.of rfl) (.nil _))) (l21All_ct _ _) (aK rfl rfl (aK rfl rfl aK0)) rfl rfl)) ?_
  all_goals refine dC (oQ rfl rfl rfl rfl) ?_
  all_goals refine dC (oA rfl (Conv.of rfl) rfl) ?_
  all_goals refine dr_nil mixed rfl ?_
  all_goals refine aT ?_
  all_goals refine finP (.v rfl (Conv.of rfl)) rfl ?_
  all_goals simp_all [FV.av]
set_option maxHeartbeats 1000000 in
theorem worldShownA_ct (w : Wrld) (c : Cert) (hl : c.chain.length ≤ 1000000) : CtP Tryz.prog 8 [.v w, .v c] (.v (worldShown w c)) := by
  cases hw : worldOk w with
  | false =>
    have hk1 : CtP Tryz.prog 43 [.v w] (.v false) := by have := worldOk_ct w; rwa [hw] at this
    have e : worldShown w c = false := by unfold worldShown; rw [hw]; rfl
    rw [e]
    refine Ct.intro Tryz.func8 rfl rfl ?_
    all_goals refine aS (aR ?_)
    all_goals refine oC (op_box (o := 0) ty26 rfl (Conv.of rfl) rfl rfl) ?_
    all_goals refine oC (op_box (o := 1) ty30 rfl (Conv.of rfl) rfl rfl) ?_
    all_goals refine oC (oA rfl (Conv.of rfl) rfl) ?_
    all_goals refine oN ?_
    all_goals refine aS (aR ?_)
    all_goals refine oC (oD ty26 rfl rfl rfl) ?_
    all_goals refine oC (oL fb43 (.cons rfl (Conv.of rfl) (.nil _)) (hk1) (aK rfl rfl aK0) rfl rfl) ?_
    all_goals refine oC (oM rfl (Conv.of rfl) rfl) ?_
    all_goals refine g_lit (t := 7) (b := false) rfl ?_
    all_goals refine oC (gF rfl rfl rfl rfl rfl) ?_
    all_goals refine oC (gF rfl rfl rfl rfl rfl) ?_
    all_goals refine oC (oQ rfl rfl rfl rfl) ?_
    all_goals refine oC (oM rfl (Conv.of rfl) rfl) ?_
    all_goals refine g_lit (t := 11) (b := false) rfl ?_
    all_goals refine oC (gF rfl rfl rfl rfl rfl) ?_
    all_goals refine oC (gF rfl rfl rfl rfl rfl) ?_
    all_goals refine oC (gF rfl rfl rfl rfl rfl) ?_
    all_goals refine oC (gF rfl rfl rfl rfl rfl) ?_
    all_goals refine oC (gF rfl rfl rfl rfl rfl) ?_
    all_goals refine oC (oQ rfl rfl rfl rfl) ?_
    all_goals refine oC (oA rfl (Conv.of rfl) rfl) ?_
    all_goals refine oN ?_
    all_goals refine aT ?_
    all_goals refine finP (.v rfl (Conv.of rfl)) rfl ?_
    all_goals rfl
  | true =>
    cases hc : certOk c with
    | true => exact worldShown_ct w c hw hc
    | false =>
      have hk1 : CtP Tryz.prog 43 [.v w] (.v true) := by have := worldOk_ct w; rwa [hw] at this
      have hk2 : CtP Tryz.prog 11 [.v c] (.v false) := by have := certOk_ct c hl; rwa [hc] at this
      have e : worldShown w c = false := by unfold worldShown; rw [hw, hc]; rfl
      rw [e]
      refine Ct.intro Tryz.func8 rfl rfl ?_
      all_goals refine aS (aR ?_)
      all_goals refine oC (op_box (o := 0) ty26 rfl (Conv.of rfl) rfl rfl) ?_
      all_goals refine oC (op_box (o := 1) ty30 rfl (Conv.of rfl) rfl rfl) ?_
      all_goals refine oC (oA rfl (Conv.of rfl) rfl) ?_
      all_goals refine oN ?_
      all_goals refine aS (aR ?_)
      all_goals refine oC (oD ty26 rfl rfl rfl) ?_
      all_goals refine oC (oL fb43 (.cons rfl (Conv.of rfl) (.nil _)) (hk1) (aK rfl rfl aK0) rfl rfl) ?_
      all_goals refine oC (oM rfl (Conv.of rfl) rfl) ?_
      all_goals refine g_lit (t := 7) (b := true) rfl ?_
      all_goals refine oC (gN rfl rfl rfl (oD ty30 rfl rfl rfl)) ?_
      all_goals refine oC (gN rfl rfl rfl (oL fb11 (.cons rfl (Conv.of rfl) (.nil _)) (hk2) (aK rfl rfl aK0) rfl rfl)) ?_
      all_goals refine oC (oQ rfl rfl rfl rfl) ?_
      all_goals refine oC (oM rfl (Conv.of rfl) rfl) ?_
      all_goals refine g_lit (t := 11) (b := false) rfl ?_
      all_goals refine oC (gF rfl rfl rfl rfl rfl) ?_
      all_goals refine oC (gF rfl rfl rfl rfl rfl) ?_
      all_goals refine oC (gF rfl rfl rfl rfl rfl) ?_
      all_goals refine oC (gF rfl rfl rfl rfl rfl) ?_
      all_goals refine oC (gF rfl rfl rfl rfl rfl) ?_
      all_goals refine oC (oQ rfl rfl rfl rfl) ?_
      all_goals refine oC (oA rfl (Conv.of rfl) rfl) ?_
      all_goals refine oN ?_
      all_goals refine aT ?_
      all_goals refine finP (.v rfl (Conv.of rfl)) rfl ?_
      all_goals rfl
theorem certVotesA_ct (c : Cert) (hl : c.chain.length ≤ 1000000) : CtP Tryz.prog 12 [.v c] (.v (certVotes c)) := by
  cases hc : certOk c with
  | true => exact certVotesP_ct c hc
  | false =>
    have e : certVotes c = [] := by unfold certVotes; rw [hc]; rfl
    rw [e]
    refine Ct.intro Tryz.func12 rfl rfl ?_
    refine aS (aR ?_)
    refine oC (op_box (o := 0) ty30 rfl (Conv.of rfl) rfl rfl) ?_
    refine oC (oA rfl (Conv.of rfl) rfl) ?_
    refine oN ?_
    refine aS (aS (aR ?_))
    refine oC (oD ty30 rfl rfl rfl) ?_
    refine oC (oL fb11 (.cons rfl (Conv.of rfl) (.nil _)) (certOk_ct _ hl) (aK rfl rfl aK0) rfl rfl) ?_
    refine oC (op_not rfl rfl) ?_
    refine oN ?_
    refine aC rfl (fun h2 => ?_) (fun h2 => absurd (not_f h2) (by rw [hc]; decide))
    refine aS (aR ?_)
    refine oC (oA rfl (Conv.of rfl) rfl) ?_
    refine oN ?_
    refine aT ?_
    repeat first | refine rS ?_ | refine rB ?_
    exact finP (.v rfl Conv.nl) rfl rfl
end Go.Proofs.YtmhmeppocbcmeaaGreat

/- The reference: certificates are made. -/
set_option linter.unusedVariables false
set_option linter.unusedSimpArgs false
namespace Go.Proofs.YtmhmeppocbcmeaaGreat
open Go Go.Wt
set_option maxHeartbeats 2000000 in
theorem l13OfY_ct (l : List Vote) (c : List Itm) (n : Nat) (hc : ∀ x ∈ c, 0 ≤ x.epoch ∧ x.epoch ≤ 1000000) (hl : c.length ≤ 1000000) (hn2 : 2 ≤ n) (hnl : n < c.length) (hz : finLen c = n) : Ct Tryz.prog 95 [.v l, .v c] noObj (fun r1 h1 => r1 = .tup [.v (CertN.mk (c.take (n + 1)) (.ref 2)), .v true] ∧ h1 = obs [(2, .arr (certBy l c n))]) := by
  have hfi := l11FinalIn_ct c hc
  rw [hz] at hfi
  have e0 : certBy l c n = ([vfS l (c.take ((n : Int) - 1).toNat), vfS l (c.take ((n : Int) - 1 + 1).toNat), vfS l (c.take ((n : Int) - 1 + 1 + 1).toNat)] : List (List Int)) := by
    unfold certBy
    rw [show ((n : Int) - 1).toNat = n - 1 by omega, show ((n : Int) - 1 + 1).toNat = n by omega, show ((n : Int) - 1 + 1 + 1).toNat = n + 1 by omega]
  have e1 : c.take (n + 1) = c.take ((n : Int) + 1).toNat := by congr 1
  rw [e0, e1]
  have htk : (c.take ((n : Int) + 1).toNat).length ≤ 1000000 := by rw [List.length_take]; omega
  refine Ct.intro Tryz.func95 rfl rfl ?_
  refine aS (aR ?_)
  refine oC (oX (o := 5) z30_CertN rfl rfl) ?_
  refine oC (oA rfl (Conv.of rfl) rfl) ?_
  refine oN ?_
  refine aS (aR ?_)
  refine oC (oM rfl (Conv.of rfl) rfl) ?_
  refine oC (oL fb94 (.cons rfl (Conv.of rfl) (.nil _)) (hfi) (aK rfl rfl aK0) rfl rfl) ?_
  refine oC (oA rfl (Conv.of rfl) rfl) ?_
  refine oN ?_
  refine aS (aS (aR ?_))
  refine oC (oM rfl (Conv.of rfl) rfl) ?_
  refine oC (op_eql rfl rfl rfl) ?_
  refine oN ?_
  refine aC rfl (fun h => absurd (of_decide_eq_true h) (by omega)) (fun h => ?_)
  refine aW ?_
  refine aS (aR ?_)
  refine oC (oM rfl (Conv.of rfl) rfl) ?_
  refine oC (oM rfl (Conv.of rfl) rfl) ?_
  refine oC (oP rfl rfl rfl (by omega)) ?_
  refine oC (op_slh sl27 rfl rfl rfl ⟨by omega, by omega⟩) ?_
  refine oC (oL fb107 (.cons rfl (Conv.of rfl) (.nil _)) (l1Copy_ct _ htk) (aK rfl rfl aK0) rfl rfl) ?_
  refine oC (op_build (.cons f30_0_CertN rfl (Conv.ol) (.nil _)) z30_CertN rfl pl30 rfl) ?_
  refine oC (oX (o := 0) z30_CertN rfl rfl) ?_
  refine oC (op_st ty30_CertN rfl rfl (Conv.of rfl) rfl) ?_
  refine oN ?_
  refine aS (aS (aR ?_))
  refine oC (oM rfl (Conv.of rfl) rfl) ?_
  refine oC (op_sub rfl rfl rfl (by omega)) ?_
  refine oC (oA rfl (Conv.of rfl) rfl) ?_
  refine oN ?_
  refine aB ?_
  refine awp_loop' (fun m s => (m = 3 ∧ s = mkSt 39 [(0, .v l), (1, .v c), (4, .box 5 (IsLens.whole CertN)), (6, .v (n : Int)), (7, .box 0 (IsLens.whole CertN)), (8, .v ((n : Int) - 1))] [(5, .cell CertN.zero), (0, .cell (CertN.mk (c.take ((n : Int) + 1).toNat) .nil))]) ∨ (m = 2 ∧ s = mkSt 39 [(0, .v l), (1, .v c), (4, .box 5 (IsLens.whole CertN)), (6, .v (n : Int)), (7, .box 0 (IsLens.whole CertN)), (8, .v ((n : Int) - 1 + 1))] [(5, .cell CertN.zero), (0, .cell (CertN.mk (c.take ((n : Int) + 1).toNat) (.ref 11))), (11, .arr ([vfS l (c.take ((n : Int) - 1).toNat)] : List (List Int)))]) ∨ (m = 1 ∧ s = mkSt 39 [(0, .v l), (1, .v c), (4, .box 5 (IsLens.whole CertN)), (6, .v (n : Int)), (7, .box 0 (IsLens.whole CertN)), (8, .v ((n : Int) - 1 + 1 + 1))] [(5, .cell CertN.zero), (0, .cell (CertN.mk (c.take ((n : Int) + 1).toNat) (.ref 12))), (12, .arr ([vfS l (c.take ((n : Int) - 1).toNat), vfS l (c.take ((n : Int) - 1 + 1).toNat)] : List (List Int)))]) ∨ (m = 0 ∧ s = mkSt 39 [(0, .v l), (1, .v c), (4, .box 5 (IsLens.whole CertN)), (6, .v (n : Int)), (7, .box 0 (IsLens.whole CertN)), (8, .v ((n : Int) - 1 + 1 + 1 + 1))] [(5, .cell CertN.zero), (0, .cell (CertN.mk (c.take ((n : Int) + 1).toNat) (.ref 2))), (2, .arr ([vfS l (c.take ((n : Int) - 1).toNat), vfS l (c.take ((n : Int) - 1 + 1).toNat), vfS l (c.take ((n : Int) - 1 + 1 + 1).toNat)] : List (List Int)))])) 3 (.inl ⟨rfl, rfl⟩) (Le.mk rfl (tle rfl (rfl) rfl (tle rfl (rfl) rfl (tlb rfl rfl rfl (tle rfl (rfl) rfl (tlb rfl rfl rfl (tle rfl (rfl) rfl tln)))))) (olk rfl (by exact obOkS0) (olk rfl (by exact obOkS0) oln)) noS) ?_
  rintro m s (⟨rfl, rfl⟩|⟨rfl, rfl⟩|⟨rfl, rfl⟩|⟨rfl, rfl⟩)
  · refine aS (aS (aR ?_))
    refine oC (oM rfl (Conv.of rfl) rfl) ?_
    refine oC (oM rfl (Conv.of rfl) rfl) ?_
    refine oC (oP rfl rfl rfl (by omega)) ?_
    refine oC (op_leq rfl rfl rfl) ?_
    refine oN ?_
    refine aC rfl (fun h => ?_) (fun h => absurd (of_decide_eq_false h) (by omega))
    refine aW ?_
    refine aS (aB ?_)
    refine dS ?_
    refine dC (oF f30_1_CertN rfl rfl) ?_
    refine dC (oD ty28_NRef rfl rfl rfl) ?_
    refine dC (oM rfl (Conv.of rfl) rfl) ?_
    refine dC (oM rfl (Conv.of rfl) rfl) ?_
    refine dC (oM rfl (Conv.of rfl) rfl) ?_
    refine dC (op_slh sl27 rfl rfl rfl ⟨by omega, by omega⟩) ?_
    refine dC (oL fb144 (.cons rfl (Conv.of rfl) (.cons rfl (Conv.of rfl) (.nil _))) (votersFor_ct _ _) (aK rfl rfl (aK rfl rfl aK0)) rfl rfl) ?_
    refine dC (op_bsl sl28 z93 (.cons rfl (Conv.of rfl) (.nil _)) rfl (by decide) rfl) ?_
    refine dC (op_apN (o' := 11) sl28 z93 ul28 rfl rfl rfl (by simp) (by (simp)) (by (simp)) rfl) ?_
    refine dC (oF f30_1_CertN rfl rfl) ?_
    refine dC (op_st ty28_NRef rfl rfl (Conv.of rfl) rfl) ?_
    refine dr_nil mixed rfl ?_
    refine aR ?_
    refine oC (oM rfl (Conv.of rfl) rfl) ?_
    refine oC (oP rfl rfl rfl (by omega)) ?_
    refine oC (oA rfl (Conv.of rfl) rfl) ?_
    refine oN ?_
    repeat first | refine nS ?_ | refine nB ?_
    exact ⟨2, _, by decide, .inr (.inl ⟨rfl, rfl⟩), Le.mk rfl (tle rfl (rfl) rfl (tle rfl (rfl) rfl (tlb rfl rfl rfl (tle rfl (rfl) rfl (tlb rfl rfl rfl (tle rfl (rfl) rfl tln)))))) (olk rfl (by exact obOkS0) (olk rfl (by exact obOkC rfl) (olk rfl (by exact bA) oln))) noS⟩
  · refine aS (aS (aR ?_))
    refine oC (oM rfl (Conv.of rfl) rfl) ?_
    refine oC (oM rfl (Conv.of rfl) rfl) ?_
    refine oC (oP rfl rfl rfl (by omega)) ?_
    refine oC (op_leq rfl rfl rfl) ?_
    refine oN ?_
    refine aC rfl (fun h => ?_) (fun h => absurd (of_decide_eq_false h) (by omega))
    refine aW ?_
    refine aS (aB ?_)
    refine dS ?_
    refine dC (oF f30_1_CertN rfl rfl) ?_
    refine dC (oD ty28_NRef rfl rfl rfl) ?_
    refine dC (oM rfl (Conv.of rfl) rfl) ?_
    refine dC (oM rfl (Conv.of rfl) rfl) ?_
    refine dC (oM rfl (Conv.of rfl) rfl) ?_
    refine dC (op_slh sl27 rfl rfl rfl ⟨by omega, by omega⟩) ?_
    refine dC (oL fb144 (.cons rfl (Conv.of rfl) (.cons rfl (Conv.of rfl) (.nil _))) (votersFor_ct _ _) (aK rfl rfl (aK rfl rfl aK0)) rfl rfl) ?_
    refine dC (op_bsl sl28 z93 (.cons rfl (Conv.of rfl) (.nil _)) rfl (by decide) rfl) ?_
    refine dC (op_apA (o' := 12) sl28 z93 ul28 rfl rfl rfl rfl (by simp) (by (simp)) (by (simp)) rfl) ?_
    refine dC (oF f30_1_CertN rfl rfl) ?_
    refine dC (op_st ty28_NRef rfl rfl (Conv.of rfl) rfl) ?_
    refine dr_nil mixed rfl ?_
    refine aR ?_
    refine oC (oM rfl (Conv.of rfl) rfl) ?_
    refine oC (oP rfl rfl rfl (by omega)) ?_
    refine oC (oA rfl (Conv.of rfl) rfl) ?_
    refine oN ?_
    repeat first | refine nS ?_ | refine nB ?_
    exact ⟨1, _, by decide, .inr (.inr (.inl ⟨rfl, rfl⟩)), Le.mk rfl (tle rfl (rfl) rfl (tle rfl (rfl) rfl (tlb rfl rfl rfl (tle rfl (rfl) rfl (tlb rfl rfl rfl (tle rfl (rfl) rfl tln)))))) (olk rfl (by exact obOkS0) (olk rfl (by exact obOkC rfl) (olk rfl (by exact bA) oln))) noS⟩
  · refine aS (aS (aR ?_))
    refine oC (oM rfl (Conv.of rfl) rfl) ?_
    refine oC (oM rfl (Conv.of rfl) rfl) ?_
    refine oC (oP rfl rfl rfl (by omega)) ?_
    refine oC (op_leq rfl rfl rfl) ?_
    refine oN ?_
    refine aC rfl (fun h => ?_) (fun h => absurd (of_decide_eq_false h) (by omega))
    refine aW ?_
    refine aS (aB ?_)
    refine dS ?_
    refine dC (oF f30_1_CertN rfl rfl) ?_
    refine dC (oD ty28_NRef rfl rfl rfl) ?_
    refine dC (oM rfl (Conv.of rfl) rfl) ?_
    refine dC (oM rfl (Conv.of rfl) rfl) ?_
    refine dC (oM rfl (Conv.of rfl) rfl) ?_
    refine dC (op_slh sl27 rfl rfl rfl ⟨by omega, by omega⟩) ?_
    refine dC (oL fb144 (.cons rfl (Conv.of rfl) (.cons rfl (Conv.of rfl) (.nil _))) (votersFor_ct _ _) (aK rfl rfl (aK rfl rfl aK0)) rfl rfl) ?_
    refine dC (op_bsl sl28 z93 (.cons rfl (Conv.of rfl) (.nil _)) rfl (by decide) rfl) ?_
    refine dC (op_apA (o' := 2) sl28 z93 ul28 rfl rfl rfl rfl (by simp) (by (simp)) (by (simp)) rfl) ?_
    refine dC (oF f30_1_CertN rfl rfl) ?_
    refine dC (op_st ty28_NRef rfl rfl (Conv.of rfl) rfl) ?_
    refine dr_nil mixed rfl ?_
    refine aR ?_
    refine oC (oM rfl (Conv.of rfl) rfl) ?_
    refine oC (oP rfl rfl rfl (by omega)) ?_
    refine oC (oA rfl (Conv.of rfl) rfl) ?_
    refine oN ?_
    repeat first | refine nS ?_ | refine nB ?_
    exact ⟨0, _, by decide, .inr (.inr (.inr ⟨rfl, rfl⟩)), Le.mk rfl (tle rfl (rfl) rfl (tle rfl (rfl) rfl (tlb rfl rfl rfl (tle rfl (rfl) rfl (tlb rfl rfl rfl (tle rfl (rfl) rfl tln)))))) (olk rfl (by exact obOkS0) (olk rfl (by exact obOkC rfl) (olk rfl (by exact bA) oln))) noS⟩
  · refine aS (aS (aR ?_))
    refine oC (oM rfl (Conv.of rfl) rfl) ?_
    refine oC (oM rfl (Conv.of rfl) rfl) ?_
    refine oC (oP rfl rfl rfl (by omega)) ?_
    refine oC (op_leq rfl rfl rfl) ?_
    refine oN ?_
    refine aC rfl (fun h => absurd (of_decide_eq_true h) (by omega)) (fun h => ?_)
    refine aE ?_
    repeat refine ex_seq ?_
    refine eB ?_
    refine aS (aR ?_)
    refine oC (oD ty30_CertN rfl rfl rfl) ?_
    refine oC (op_st ty30_CertN rfl rfl (Conv.of rfl) rfl) ?_
    refine oC (oA rfl (Conv.of rfl) rfl) ?_
    refine oN ?_
    refine aT ?_
    repeat first | refine rS ?_ | refine rB ?_
    refine ⟨_, _, resN (ol := [(2, .arr ([vfS l (c.take ((n : Int) - 1).toNat), vfS l (c.take ((n : Int) - 1 + 1).toNat), vfS l (c.take ((n : Int) - 1 + 1 + 1).toNat)] : List (List Int)))]) (.cons (.rc ty30_CertN rfl rfl) (.cons (.v rfl (Conv.of rfl)) .nil)) rfl (fun o ho => ?_) (olk rfl bA oln) noS, rfl, rfl⟩
    have : o = 2 := by simpa using (show o ∈ [2] from ho)
    subst this; rfl
end Go.Proofs.YtmhmeppocbcmeaaGreat

/- The reference: certificates of votes. -/
set_option linter.unusedVariables false
set_option linter.unusedSimpArgs false
namespace Go.Proofs.YtmhmeppocbcmeaaGreat
open Go Go.Wt
set_option maxHeartbeats 1000000 in
theorem sCertOfN_ct (l : List Vote) (hl : l.length ≤ 1000) (hs : certS l = none) : CtP Tryz.prog 41 [.v l] (.tup [.v CertN.zero, .v false]) := by
  cases ho : votesOk l with
  | false =>
    refine Ct.intro Tryz.func41 rfl rfl ?_
    all_goals refine aS (aR ?_)
    all_goals refine oC (oX (o := 0) z30_CertN rfl rfl) ?_
    all_goals refine oC (oA rfl (Conv.of rfl) rfl) ?_
    all_goals refine oN ?_
    all_goals refine aS (aS (aR ?_))
    all_goals refine oC (oM rfl (Conv.of rfl) rfl) ?_
    all_goals refine oC (oL fb51 (.cons rfl (Conv.of rfl) (.nil _)) (sVotesOk_ct _) (aK rfl rfl aK0) rfl rfl) ?_
    all_goals refine oC (op_not rfl rfl) ?_
    all_goals refine oN ?_
    refine aC rfl (fun h => ?_) (fun h => absurd (not_f h) (by rw [ho]; decide))
    all_goals refine aS (aR ?_)
    all_goals refine oC (op_build (.nil _) z30_CertN rfl pl30 rfl) ?_
    all_goals refine oC (op_st ty30_CertN rfl rfl (Conv.of rfl) rfl) ?_
    all_goals refine oC (oA rfl (Conv.of rfl) rfl) ?_
    all_goals refine oN ?_
    refine aT ?_
    repeat first | refine rS ?_ | refine rB ?_
    exact finN (.cons (.rc ty30_CertN rfl rfl) (.cons (.v rfl (Conv.of rfl)) .nil)) rfl rfl rfl
  | true =>
    have hg := gdOf ho hl
    have hnone : ∀ c ∈ allOfS l, (decide (finLen c = ((finalS l).length : Int)) && decide (0 < (finalS l).length)) = false := fun c hc => by
      have h0 : certFind l = none := by
        unfold certS at hs
        rw [if_pos ho] at hs
        cases hf : certFind l with
        | none => rfl
        | some y => rw [hf] at hs; cases hs
      unfold certFind at h0
      have := List.find?_eq_none.1 h0 c hc
      simpa using this
    have hall : (allOfS l).length ≤ 100001 := by
      have h1 := allStepS_len l l [[]]
      have h2 := hg.l
      simp at h1; unfold allOfS; omega
    refine Ct.intro Tryz.func41 rfl rfl ?_
    all_goals refine aS (aR ?_)
    all_goals refine oC (oX (o := 5) z30_CertN rfl rfl) ?_
    all_goals refine oC (oA rfl (Conv.of rfl) rfl) ?_
    all_goals refine oN ?_
    all_goals refine aS (aS (aR ?_))
    all_goals refine oC (oM rfl (Conv.of rfl) rfl) ?_
    all_goals refine oC (oL fb51 (.cons rfl (Conv.of rfl) (.nil _)) (sVotesOk_ct _) (aK rfl rfl aK0) rfl rfl) ?_
    all_goals refine oC (op_not rfl rfl) ?_
    all_goals refine oN ?_
    refine aC rfl (fun h => absurd (not_t h) (by rw [ho]; decide)) (fun h => ?_)
    refine aW ?_
    all_goals refine aS (aR ?_)
    all_goals refine oC (oM rfl (Conv.of rfl) rfl) ?_
    all_goals refine oC (oL fb92 (.cons rfl (Conv.of rfl) (.nil _)) (l11All_ct l hg.l hg.v) (aK rfl rfl aK0) rfl rfl) ?_
    all_goals refine oC (oA rfl Conv.ol rfl) ?_
    all_goals refine oN ?_
    all_goals refine aS (aR ?_)
    all_goals refine oC (oM rfl (Conv.of rfl) rfl) ?_
    all_goals refine oC (oL fb93 (.cons rfl (Conv.of rfl) (.nil _)) (l11Final_ct l hg) (aK rfl rfl aK0) rfl rfl) ?_
    all_goals refine oC (oE sl27 rfl rfl) ?_
    all_goals refine oC (oA rfl (Conv.of rfl) rfl) ?_
    all_goals refine oN ?_
    all_goals refine aS (aS (aR ?_))
    all_goals refine oC (oA rfl (Conv.of rfl) rfl) ?_
    all_goals refine oN ?_
    refine aB ?_
    refine awp_loop' (fun n_ s => ∃ (k : Nat), ∃ (hn : n_ + k = (allOfS l).length), s = mkSt 42 [(0, .v l), (2, .box 5 (IsLens.whole CertN)), (4, .v (allOfS l)), (5, .v ((finalS l).length : Int)), (6, .v (k : Int))] [(5, .cell CertN.zero)]) ((allOfS l).length) ⟨0, by omega, rfl⟩ (Le.mk rfl (tle rfl (rfl) rfl (tlb rfl rfl rfl (tle rfl (rfl) rfl (tle rfl (rfl) rfl (tle rfl (rfl) rfl tln))))) (olk rfl (by exact obOkS0) oln) noS) ?_
    rintro n_ s ⟨k, hn, rfl⟩
    all_goals refine aS (aS (aR ?_))
    all_goals refine oC (oM rfl (Conv.of rfl) rfl) ?_
    all_goals refine oC (oM rfl (Conv.of rfl) rfl) ?_
    all_goals refine oC (oE sl133 rfl rfl) ?_
    all_goals refine oC (oLt rfl rfl rfl) ?_
    all_goals refine oN ?_
    refine aC rfl (fun h => ?_) (fun h => ?_)
    · have hlt : k < (allOfS l).length := by simpa using h
      have hx : (allOfS l)[k]? = some (allOfS l)[k] := List.getElem?_eq_getElem hlt
      have hx' : (allOfS l)[(k : Int).toNat]? = some (allOfS l)[k] := hx
      have hm := List.getElem_mem hlt
      have hce : ∀ x ∈ (allOfS l)[k], 0 ≤ x.epoch ∧ x.epoch ≤ 1000000 := by
        rcases allOfS_at hm with e | ⟨v, h1, h2⟩
        · rw [e]; intro x hx; cases hx
        · rw [← h2]; exact hg.e v h1
      have hnm := hnone _ hm
      refine aW ?_
      refine aS (aB ?_)
      refine aST (s' := mkSt 42 [(0, .v l), (2, .box 5 (IsLens.whole CertN)), (4, .v (allOfS l)), (5, .v ((finalS l).length : Int)), (6, .v (k : Int)), (32, .v false)] [(5, .cell CertN.zero)]) ?_ ?_
      · all_goals refine aR ?_
        all_goals refine oC (oM rfl (Conv.of rfl) rfl) ?_
        all_goals refine oC (oM rfl (Conv.of rfl) rfl) ?_
        all_goals refine oC (op_ix sl133 rfl rfl rfl (by omega) hx') ?_
        all_goals refine oC (oDR ty27 rfl rfl) ?_
        all_goals refine oC (oL fb94 (.cons rfl (Conv.of rfl) (.nil _)) (l11FinalIn_ct _ hce) (aK rfl rfl aK0) rfl rfl) ?_
        all_goals refine oC (oM rfl (Conv.of rfl) rfl) ?_
        all_goals refine oC (op_eql rfl rfl rfl) ?_
        all_goals refine oC (oM rfl (Conv.of rfl) rfl) ?_
        all_goals refine g_split (t := 29) rfl (fun h => ?_) (fun h => ?_)
        all_goals first | refine oC (gF rfl rfl rfl rfl rfl) ?_ | refine oC (gN rfl rfl rfl (oM rfl (Conv.of rfl) rfl)) ?_
        all_goals first | refine oC (gF rfl rfl rfl rfl rfl) ?_ | refine oC (gN rfl rfl rfl (op_gtr rfl rfl rfl)) ?_
        all_goals refine oC (oQ rfl rfl rfl rfl) ?_
        all_goals refine oN ?_
        all_goals exact Le.mk rfl (tle rfl (rfl) rfl (tlb rfl rfl rfl (tle rfl (rfl) rfl (tle rfl (rfl) rfl (tle rfl (rfl) rfl (tle rfl (by first | rfl | (show AV.v _ = AV.v _; congr 1; clear hnone; simp_all; try omega)) rfl tln)))))) (olk rfl (by exact obOkS0) oln) noS
      refine aC rfl (fun h => absurd h (by decide)) (fun h => ?_)
      refine aW ?_
      all_goals refine aR ?_
      all_goals refine oC (oM rfl (Conv.of rfl) rfl) ?_
      all_goals refine oC (oP rfl rfl rfl (by omega)) ?_
      all_goals refine oC (oA rfl (Conv.of rfl) rfl) ?_
      all_goals refine oN ?_
      repeat first | refine nS ?_ | refine nB ?_
      exact ⟨n_ - 1, _, by omega, ⟨k + 1, by omega, rfl⟩, Le.mk rfl (tle rfl (rfl) rfl (tlb rfl rfl rfl (tle rfl (rfl) rfl (tle rfl (rfl) rfl (tle rfl (rfl) rfl tln))))) (olk rfl (by exact obOkS0) oln) noS⟩
    · refine aE ?_
      repeat refine ex_seq ?_
      refine eB ?_
      all_goals refine aS (aR ?_)
      all_goals refine oC (op_build (.nil _) z30_CertN rfl pl30 rfl) ?_
      all_goals refine oC (op_st ty30_CertN rfl rfl (Conv.of rfl) rfl) ?_
      all_goals refine oC (oA rfl (Conv.of rfl) rfl) ?_
      all_goals refine oN ?_
      refine aT ?_
      repeat first | refine rS ?_ | refine rB ?_
      exact finN (.cons (.rc ty30_CertN rfl rfl) (.cons (.v rfl (Conv.of rfl)) .nil)) rfl rfl rfl
set_option maxHeartbeats 1000000 in
theorem sCertOfY_ct (l : List Vote) (hl : l.length ≤ 1000) (c : List Itm) (bs : List (List Int)) (hs : certS l = some (c, bs)) : Ct Tryz.prog 41 [.v l] noObj (fun r1 h1 => r1 = .tup [.v (CertN.mk c (.ref 2)), .v true] ∧ h1 = obs [(2, .arr bs)]) := by
  have ho : votesOk l = true := by
    cases h : votesOk l with
    | true => rfl
    | false => unfold certS at hs; rw [h] at hs; simp at hs
  have hg := gdOf ho hl
  obtain ⟨d, hd, hdc, hdb⟩ : ∃ d, certFind l = some d ∧ d.take ((finLen d).toNat + 1) = c ∧ certBy l d (finLen d).toNat = bs := by
    unfold certS at hs
    rw [if_pos ho] at hs
    cases hf : certFind l with
    | none => rw [hf] at hs; cases hs
    | some y =>
      rw [hf] at hs
      simp only [Option.map_some, Option.some.injEq, Prod.mk.injEq] at hs
      exact ⟨y, rfl, hs.1, hs.2⟩
  subst hdc hdb
  have hall : (allOfS l).length ≤ 100001 := by
    have h1 := allStepS_len l l [[]]
    have h2 := hg.l
    simp at h1; unfold allOfS; omega
  refine Ct.intro Tryz.func41 rfl rfl ?_
  all_goals refine aS (aR ?_)
  all_goals refine oC (oX (o := 5) z30_CertN rfl rfl) ?_
  all_goals refine oC (oA rfl (Conv.of rfl) rfl) ?_
  all_goals refine oN ?_
  all_goals refine aS (aS (aR ?_))
  all_goals refine oC (oM rfl (Conv.of rfl) rfl) ?_
  all_goals refine oC (oL fb51 (.cons rfl (Conv.of rfl) (.nil _)) (sVotesOk_ct _) (aK rfl rfl aK0) rfl rfl) ?_
  all_goals refine oC (op_not rfl rfl) ?_
  all_goals refine oN ?_
  refine aC rfl (fun h => absurd (not_t h) (by rw [ho]; decide)) (fun h => ?_)
  refine aW ?_
  all_goals refine aS (aR ?_)
  all_goals refine oC (oM rfl (Conv.of rfl) rfl) ?_
  all_goals refine oC (oL fb92 (.cons rfl (Conv.of rfl) (.nil _)) (l11All_ct l hg.l hg.v) (aK rfl rfl aK0) rfl rfl) ?_
  all_goals refine oC (oA rfl Conv.ol rfl) ?_
  all_goals refine oN ?_
  all_goals refine aS (aR ?_)
  all_goals refine oC (oM rfl (Conv.of rfl) rfl) ?_
  all_goals refine oC (oL fb93 (.cons rfl (Conv.of rfl) (.nil _)) (l11Final_ct l hg) (aK rfl rfl aK0) rfl rfl) ?_
  all_goals refine oC (oE sl27 rfl rfl) ?_
  all_goals refine oC (oA rfl (Conv.of rfl) rfl) ?_
  all_goals refine oN ?_
  all_goals refine aS (aS (aR ?_))
  all_goals refine oC (oA rfl (Conv.of rfl) rfl) ?_
  all_goals refine oN ?_
  refine aB ?_
  refine awp_loop' (fun n_ s => ∃ (k : Nat), ∃ (hn : n_ + k = (allOfS l).length), ∃ (hfd : ((allOfS l).drop k).find? (fun c => decide (finLen c = ((finalS l).length : Int)) && decide (0 < (finalS l).length)) = certFind l), s = mkSt 42 [(0, .v l), (2, .box 5 (IsLens.whole CertN)), (4, .v (allOfS l)), (5, .v ((finalS l).length : Int)), (6, .v (k : Int))] [(5, .cell CertN.zero)]) ((allOfS l).length) ⟨0, by omega, rfl, rfl⟩ (Le.mk rfl (tle rfl (rfl) rfl (tlb rfl rfl rfl (tle rfl (rfl) rfl (tle rfl (rfl) rfl (tle rfl (rfl) rfl tln))))) (olk rfl (by exact obOkS0) oln) noS) ?_
  rintro n_ s ⟨k, hn, hfd, rfl⟩
  all_goals refine aS (aS (aR ?_))
  all_goals refine oC (oM rfl (Conv.of rfl) rfl) ?_
  all_goals refine oC (oM rfl (Conv.of rfl) rfl) ?_
  all_goals refine oC (oE sl133 rfl rfl) ?_
  all_goals refine oC (oLt rfl rfl rfl) ?_
  all_goals refine oN ?_
  refine aC rfl (fun h => ?_) (fun h => ?_)
  · have hlt : k < (allOfS l).length := by simpa using h
    have hx : (allOfS l)[k]? = some (allOfS l)[k] := List.getElem?_eq_getElem hlt
    have hx' : (allOfS l)[(k : Int).toNat]? = some (allOfS l)[k] := hx
    have hm := List.getElem_mem hlt
    have hce : ∀ x ∈ (allOfS l)[k], 0 ≤ x.epoch ∧ x.epoch ≤ 1000000 := by
      rcases allOfS_at hm with e | ⟨v, h1, h2⟩
      · rw [e]; intro x hx; cases hx
      · rw [← h2]; exact hg.e v h1
    have hcl : ((allOfS l)[k]).length ≤ 1000000 := by
      rcases allOfS_at hm with e | ⟨v, h1, h2⟩
      · rw [e]; simp
      · rw [← h2]; exact hg.v v h1
    obtain ⟨hy, hno⟩ := certFind_at hx hfd
    generalize (allOfS l)[k] = x at hx hx' hm hce hcl hy hno
    refine aW ?_
    refine aS (aB ?_)
    refine aST (s' := mkSt 42 [(0, .v l), (2, .box 5 (IsLens.whole CertN)), (4, .v (allOfS l)), (5, .v ((finalS l).length : Int)), (6, .v (k : Int)), (32, .v (decide (finLen x = ((finalS l).length : Int)) && decide (0 < (finalS l).length)))] [(5, .cell CertN.zero)]) ?_ ?_
    · all_goals refine aR ?_
      all_goals refine oC (oM rfl (Conv.of rfl) rfl) ?_
      all_goals refine oC (oM rfl (Conv.of rfl) rfl) ?_
      all_goals refine oC (op_ix sl133 rfl rfl rfl (by omega) hx') ?_
      all_goals refine oC (oDR ty27 rfl rfl) ?_
      all_goals refine oC (oL fb94 (.cons rfl (Conv.of rfl) (.nil _)) (l11FinalIn_ct _ hce) (aK rfl rfl aK0) rfl rfl) ?_
      all_goals refine oC (oM rfl (Conv.of rfl) rfl) ?_
      all_goals refine oC (op_eql rfl rfl rfl) ?_
      all_goals refine oC (oM rfl (Conv.of rfl) rfl) ?_
      all_goals refine g_split (t := 29) rfl (fun h => ?_) (fun h => ?_)
      all_goals first | refine oC (gF rfl rfl rfl rfl rfl) ?_ | refine oC (gN rfl rfl rfl (oM rfl (Conv.of rfl) rfl)) ?_
      all_goals first | refine oC (gF rfl rfl rfl rfl rfl) ?_ | refine oC (gN rfl rfl rfl (op_gtr rfl rfl rfl)) ?_
      all_goals refine oC (oQ rfl rfl rfl rfl) ?_
      all_goals refine oN ?_
      all_goals exact Le.mk rfl (tle rfl (rfl) rfl (tlb rfl rfl rfl (tle rfl (rfl) rfl (tle rfl (rfl) rfl (tle rfl (rfl) rfl (tle rfl (by (show AV.v _ = AV.v _; congr 1; clear hy hno hfd hd; simp_all; try omega)) rfl tln)))))) (olk rfl (by exact obOkS0) oln) noS
    refine aC rfl (fun h => ?_) (fun h => ?_)
    · have hxd := hy h
      rw [hd] at hxd
      cases hxd
      simp only [Bool.and_eq_true, decide_eq_true_eq] at h
      obtain ⟨n, hn2⟩ : ∃ n : Nat, finLen d = n := ⟨(finLen d).toNat, by omega⟩
      have hsp : 2 ≤ n ∧ n < d.length := by
        rcases finLen_spec d with h0 | ht
        · omega
        · have h1 := ht.1
          have h2 := ht.lt
          rw [hn2] at h1 h2
          exact ⟨h1, h2⟩
      have k1 := l13OfY_ct l d n hce hcl hsp.1 hsp.2 hn2
      have en : (finLen d).toNat = n := by omega
      rw [en]
      all_goals refine aS (aR ?_)
      all_goals refine oC (oM rfl (Conv.of rfl) rfl) ?_
      all_goals refine oC (oM rfl (Conv.of rfl) rfl) ?_
      all_goals refine oC (oM rfl (Conv.of rfl) rfl) ?_
      all_goals refine oC (op_ix sl133 rfl rfl rfl (by omega) hx') ?_
      all_goals refine oC (oDR ty27 rfl rfl) ?_
      refine awpOps_callO [] rfl fb95 (.cons rfl (Conv.of rfl) (.cons rfl (Conv.of rfl) (.nil _))) k1 ols0 k0 (argOk' rfl rfl (argOk' rfl rfl argO0)) rfl ?_
      rintro r h' ⟨rfl, rfl⟩
      refine ⟨[(2, .arr (certBy l d n))], rfl, (fun o ho => by cases ho), fun o ho _ => ?_, kK bA k0, fun o ho => ?_, ?_⟩
      · have : o = 2 := by simpa [keys, lk0] using ho
        subst this; rfl
      · have : o = 2 := by simpa using (show o ∈ [2] from ho)
        subst this; rfl
      all_goals refine oC (op_ext rfl rfl rfl) ?_
      all_goals refine oC (op_ext rfl rfl rfl) ?_
      all_goals refine oC (op_st ty30_CertN rfl rfl (Conv.of rfl) rfl) ?_
      all_goals refine oC (oA rfl (Conv.of rfl) rfl) ?_
      all_goals refine oN ?_
      refine aT ?_
      repeat first | refine rS ?_ | refine rB ?_
      refine ⟨_, _, resN (ol := [(2, .arr (certBy l d n))]) (.cons (.rc ty30_CertN rfl rfl) (.cons (.v rfl (Conv.of rfl)) .nil)) rfl (fun o ho => ?_) (olk rfl bA oln) noS, rfl, rfl⟩
      have : o = 2 := by simpa using (show o ∈ [2] from ho)
      subst this; rfl
    · refine aW ?_
      all_goals refine aR ?_
      all_goals refine oC (oM rfl (Conv.of rfl) rfl) ?_
      all_goals refine oC (oP rfl rfl rfl (by omega)) ?_
      all_goals refine oC (oA rfl (Conv.of rfl) rfl) ?_
      all_goals refine oN ?_
      repeat first | refine nS ?_ | refine nB ?_
      exact ⟨n_ - 1, _, by omega, ⟨k + 1, by omega, hno h, rfl⟩, Le.mk rfl (tle rfl (rfl) rfl (tlb rfl rfl rfl (tle rfl (rfl) rfl (tle rfl (rfl) rfl (tle rfl (rfl) rfl tln))))) (olk rfl (by exact obOkS0) oln) noS⟩
  · refine aE ?_
    repeat refine ex_seq ?_
    refine eB ?_
    have hk : (allOfS l).length ≤ k := by simpa using h
    rw [drop_end hk, hd] at hfd
    cases hfd
end Go.Proofs.YtmhmeppocbcmeaaGreat

/- An array becomes a list with room of its own. -/
set_option linter.unusedVariables false
set_option linter.unusedSimpArgs false
namespace Go.Wt
open Go
variable {S : Nat → Prop}
def Gh.own1 (G : Gh) (o b n m t : Nat) : Gh := ⟨fun b' i => if b' = b ∧ i < n then (if i < m then none else some (.tmp t, [])) else G.own b' i, fun k => if k = o then none else G.hdr k⟩
theorem own1_sh {G : Gh} {w : Go.World} {o b n m t : Nat} (h : ∀ i, i < n → G.own b i = some (.blk o, [])) : Sh G w (G.own1 o b n m t) w := fun b' i v k1 k2 => ⟨by
  simp only [Gh.own1]
  by_cases e : b' = b ∧ i < n
  · obtain ⟨rfl, hi⟩ := e
    rw [h i hi] at k1; cases k1
  · rw [if_neg e]; exact k1, k2⟩
theorem own1_ow {G : Gh} {w : Go.World} {o b n m t : Nat} {ω : Owner} (h : ∀ i, i < n → G.own b i = some (.blk o, [])) (hω : ω.1 ≠ .blk o) : Ow G w ω (G.own1 o b n m t) w ω never := fun b' i π v _ k1 k2 => by
  refine ⟨?_, k2, id⟩
  simp only [Gh.own1]
  by_cases e : b' = b ∧ i < n
  · obtain ⟨rfl, hi⟩ := e
    rw [h i hi] at k1
    injection k1 with k1
    exact absurd (congrArg Prod.fst k1).symm hω
  · rw [if_neg e]; exact k1
theorem own1_keep {S : Nat → Prop} {G : Gh} {w : Go.World} {o b n m t : Nat} (h : ∀ i, i < n → G.own b i = some (.blk o, [])) (hS : ¬ S o) : Keep S G w (G.own1 o b n m t) w :=
  ⟨rfl, rfl, rfl, Nat.le_refl _, fun b' i v k1 k2 => ⟨by
    simp only [Gh.own1]
    by_cases e : b' = b ∧ i < n
    · obtain ⟨rfl, hi⟩ := e
      rw [h i hi] at k1
      rcases k1 with k1 | ⟨π, k1⟩ <;> simp at k1
    · rw [if_neg e], k2, rfl⟩, fun _ _ _ => rfl, fun k v hk hv => by
    have : k ≠ o := fun e => hS (e ▸ hk)
    simp [Gh.own1, this, hv]⟩
theorem Le.own {n t o : Nat} {α : Type} [Enc α] [Plain α] {xs : List α} {tl : List (Nat × AV)} {ol : List (Nat × Obj)} (hB : xs.length ≤ big) (hS : ∀ k, S k → keys ol k = true)
    (h1 : (tl.all fun x => x.2.refs.all fun q => q != o) = true) (h2 : keys ol o = false) (h3 : ObL (fun k => k != o) ol) :
    Le S (mkSt n ((t, .v (NRef.ref o)) :: tl) ((o, .arr xs) :: ol)) (mkSt n ((t, .v (OList.mk xs true)) :: tl) ol) := fun G w a hr => by
  have ho : RelO G w o (orr (lk0 ((o, .arr xs) :: ol) o) .free) := hr.objs o
  rw [lk0_hit] at ho
  obtain ⟨b, cap, cs, te, m1, m2, m3, m4, m5, m6⟩ := ho
  have hhm : ∀ q, (q != o) = true → ∀ v, G.hdr q = some v → (G.own1 o b cs.length (xs.length * Enc.size α) t).hdr q = some v := fun q hq v hv => by
    simp at hq
    simp [Gh.own1, hq, hv]
  have hsz := Enc.size_pos (α := α)
  refine ⟨G.own1 o b cs.length (xs.length * Enc.size α) t, ⟨hr.defers, hr.size, fun q => ?_, fun k => ?_⟩, own1_keep m6 (fun hs => by have := hS o hs; rw [h2] at this; cases this)⟩
  · show RelT _ _ _ (lk0 ((t, .v (OList.mk xs true)) :: tl) q) _
    have hq' : RelT G w (.tmp q, []) (lk0 ((t, .v (NRef.ref o)) :: tl) q) (a.tmps.getD q undef) := hr.tmps q
    by_cases e : q = t
    · subst e
      rw [lk0_hit] at hq' ⊢
      obtain ⟨cs', ⟨ad, m, c, g1, g2⟩, g3⟩ := hq'
      have g2' : G.hdr o = some (.slice ad m c) := g2
      rw [m1] at g2'
      injection g2' with g2'
      injection g2' with e1 e2 e3
      subst e1 e2 e3
      refine ⟨cs', ⟨_, _, g1, m3, .inr ⟨b, 0, rfl, hB, fun i x hx => ?_⟩, fun _ => .inr ⟨b, 0, rfl, fun j j1 j2 => ?_⟩⟩, g3⟩
      · obtain ⟨c, c1, c2⟩ := m5 i x hx
        refine ⟨c, Plain.mono (own1_sh m6) c1, fun j v hj => ?_⟩
        have hj2 := c2 j v hj
        have hlt := getElem?_lt hj2
        have hil : i < xs.length := getElem?_lt hx
        have hjl : j < Enc.size α := by
          have := getElem?_lt hj
          rw [Enc.len c1] at this; exact this
        have hin : i * Enc.size α + j < xs.length * Enc.size α := by
          have : (i + 1) * Enc.size α ≤ xs.length * Enc.size α := Nat.mul_le_mul_right _ hil
          rw [Nat.succ_mul] at this; omega
        refine ⟨by simp [Gh.own1, hlt, hin], ?_⟩
        rw [cl_row m2]
        simpa using hj2
      · have hjc : j < cs.length := by omega
        refine ⟨by simp [Gh.own1, hjc]; omega, ⟨cs[j], by rw [cl_row m2]; simp [hjc]⟩, ?_⟩
        simp [World.frozen?, m2]
    · rw [lk0_miss e] at hq' ⊢
      cases hl : lk0 tl q with
      | none => trivial
      | some av =>
        rw [hl] at hq'
        have hm := lk0_mem hl
        rw [List.all_eq_true] at h1
        have hav := h1 _ hm
        rw [List.all_eq_true] at hav
        exact RelV.mono (own1_sh m6) (own1_ow m6 (by simp)) (fun r hr' => hhm r (hav r hr')) hq'
  · show RelO _ _ k (orr (lk0 ol k) .free)
    have hk' : RelO G w k (orr (lk0 ((o, .arr xs) :: ol) k) .free) := hr.objs k
    by_cases e2 : k = o
    · subst e2
      rw [keys_none h2]
      show (G.own1 k b cs.length _ t).hdr k = none
      simp [Gh.own1]
    · rw [lk0_miss e2] at hk'
      cases hl : lk0 ol k with
      | none =>
        rw [hl] at hk'
        have hk2 : G.hdr k = none := hk'
        show (G.own1 o b cs.length _ t).hdr k = none
        simp [Gh.own1, e2, hk2]
      | some x =>
        rw [hl] at hk'
        refine RelO.presP (own1_sh m6) hhm (h3.get k x hl) ⟨by simp [Gh.own1, e2], fun b' _ _ => ⟨rfl, fun i hi => ?_⟩, own1_ow m6 (by simp)⟩ hk'
        simp only [Gh.own1]
        by_cases e : b' = b ∧ i < cs.length
        · obtain ⟨rfl, hi'⟩ := e
          rw [m6 i hi'] at hi
          injection hi with hi
          simp at hi
          exact absurd hi.symm e2
        · rw [if_neg e]; exact hi
section nil
variable {P : Program} {ops : Array Oper} {st : St} {d : Nat} {T pos aft} {x : Operand}
theorem op_lenN {E bytes t : TypeId} {α : Type} [Enc α] (sl : SlOk P t E bytes α) (hx : st.ev x = some (.v NRef.nil)) (hn : Nat.blt d st.n = true) :
    OpOk P S ops ⟨some d, .call { callee := .builtin .len, args := #[x], argTypes := #[t] }, T, pos, aft, none⟩ (opT x) [] [(d, some (.v (0 : Int)))] [] st :=
  OpOk.value rfl rfl (by simpa using hn) fun st1 hag G w a hr => ⟨.int .i64 0, by
    have u1 : a.eval x = .slice none 0 0 := by
      obtain ⟨cs, h1, h2⟩ := hr.at hag hx fun t ht => ht
      rw [h2, show cs = [_] from h1]; rfl
    simp [execOp, resolve, invoke, builtin, Builtin.len_, u1, run_underlying sl.spec.1, goInt], relInt _ _ _ _⟩
/-- A store of another kind of value into the whole of a variable. -/
theorem op_stT {T pos aft} {o s tb : Nat} {α β : Type} [Enc α] [Enc β] {c : α} {y : β} {t : TypeId} (ty : TyOk P t β) (hsz : Enc.size α = Enc.size β) (hx : st.tm tb = some (.box o (IsLens.whole α))) (hy : st.tm s = some (.v y)) (ho : st.ob o = .cell c) :
    OpOk P S ops ⟨none, .store t (.tmp tb) (.tmp s), T, pos, aft, none⟩ [tb, s] [o] [(s, some (.v (Enc.dis y))), (tb, some (.box o (IsLens.whole β)))] [(o, .cell y)] st := by
  intro st1 hag G w a hr K Q hK
  unfold stepO
  rw [if_pos (by simp [Region.wanted])]
  refine .inl ?_
  have htb : st1.tm tb = some (.box o (IsLens.whole α)) := by rw [hag.tm tb (by simp)]; exact hx
  have hb := hr.tmps tb
  rw [htb] at hb
  obtain ⟨b, h1, h2⟩ := hb
  have hts : st1.tm s = some (.v y) := by rw [hag.tm s (by simp)]; exact hy
  have hv := hr.tmps s
  rw [hts] at hv
  obtain ⟨ds, k1, k2⟩ := hv
  have hob := hr.objs o
  rw [hag.ob o (by simp), ho] at hob
  obtain ⟨b', cs, te, m1, m2, m3, m4⟩ := hob
  have : b' = b := by rw [h1] at m1; simpa using m1.symm
  subst this
  have hl := Enc.len m3
  have hdl := Enc.len k1
  have hrun := run_store_rd (P := P) (off := 0) ty k1 m2 (by omega)
  have e1 : cs.take 0 ++ ds ++ cs.drop (0 + Enc.size β) = ds := by
    have : cs.drop (0 + Enc.size β) = [] := List.drop_eq_nil_of_le (by omega)
    rw [this]; simp
  rw [e1] at hrun
  have hw : Wr G w o b' cs ds te := ⟨m2, m4, by omega, by have := Enc.size_pos (α := α); omega⟩
  have hk2 : a.eval (.tmp s) = Enc.val β ds := k2
  have hk3 : a.eval (.tmp tb) = .pointer (some ⟨b', 0, none⟩) := h2
  have hc : (execOp a.eval ⟨none, .store t (.tmp tb) (.tmp s), T, pos, aft, none⟩).run P w = .ok .skip (w.setRow b' ds.toArray) := by
    simp only [execOp, hk3, hk2, Instr.storeAt, Instr.sureAddr, Sem.run_bind, Sem.run_pure, Result.andThen_ok, hrun]
  unfold Oper.wp
  rw [hc]
  simp only [Oper.upon, Act.put]
  have h1' := hr.write hw (x' := .dead) trivial
  have h2' := h1'.mvt (s := s) (D := (.obj o, [])) (av := .v y) hts (by simp) (fun k hk _ => by
    intro e'
    injection e' with e'
    subst e'
    exact hk (by simp [St.upd, lk, orr])) (by simp)
  have hsh : Sh G w (G.mv (.tmp s, []) (.obj o, [])) (w.setRow b' ds.toArray) := hw.sh.trans Sh.mv
  have h3' := h2'.setob (o := o) (x := .cell y) ⟨b', ds, te, m1, setRow_heap _ _ _ _ _ _ m2, (by
    refine Enc.mono hsh (fun bb i π v hno q1 q2 => ?_) (fun _ _ _ h => h) k1
    obtain ⟨r1, r2, r3⟩ := hw.ow (ω := (.tmp s, [])) (by simp) bb i π v hno q1 q2
    obtain ⟨s1, s2, s3⟩ := Ow.mv_src (s := (.tmp s, [])) (d := (.obj o, [])) bb i π v id r1 r2
    exact ⟨s1, s2, fun hh => s3 (r3 hh)⟩), fun i hi => by
    have := m4 i (by omega)
    simp [Gh.mv, this, relab]⟩
  refine hK _ _ _ ⟨h3'.defers, h3'.size, fun q => ?_, fun k => ?_⟩ ((hw.keep S).trans (Keep.mv (s := (.tmp s, [])) (d := (.obj o, [])) S (by simp) (by simp)))
  · have hq := h3'.tmps q
    have hq' : RelT (G.mv (.tmp s, []) (.obj o, [])) (w.setRow b' ds.toArray) (.tmp q, []) (orr (lk [(s, some (AV.dis (.v y)))] q) (st1.tm q)) (a.tmps.getD q undef) := hq
    show RelT _ _ _ (orr (lk [(s, some (AV.v (Enc.dis y))), (tb, some (.box o (IsLens.whole β)))] q) (st1.tm q)) _
    simp only [lk] at hq' ⊢
    by_cases es : q = s
    · rw [if_pos es] at hq' ⊢
      exact hq'
    · rw [if_neg es] at hq' ⊢
      by_cases et : q = tb
      · subst et
        rw [if_pos rfl]
        exact ⟨b', m1, h2⟩
      · rw [if_neg et]
        exact hq'
  · have hk := h3'.objs k
    have hk' : RelO (G.mv (.tmp s, []) (.obj o, [])) (w.setRow b' ds.toArray) k (orr (lk [(o, Obj.cell y)] k) (orr (lk [(o, Obj.dead)] k) (st1.ob k))) := hk
    show RelO _ _ k (orr (lk [(o, Obj.cell y)] k) (st1.ob k))
    simp only [lk] at hk' ⊢
    by_cases ek : k = o
    · rw [if_pos ek] at hk' ⊢
      exact hk'
    · simp only [if_neg ek, orr] at hk' ⊢
      exact hk'
end nil
theorem awp_seq_J {P : Program} {S : Nat → Prop} {st : St} {x y : Code} {Q : Exit → St → Prop} (J : St → Prop) (h1 : awp P S x (athen (fun s => ∃ s', J s' ∧ Le S s s') Q) st) (h2 : ∀ s', J s' → awp P S y Q s') : awp P S (.seq x y) Q st :=
  aS (awp_mono h1 fun e s q => by
    cases e with
    | normal => obtain ⟨i, q1, q2⟩ := q; exact awp_le q2 (h2 i q1)
    | exit id => exact q
    | goto l => exact q
    | ret => exact q
    | panic ch => exact q
    | outgrown => exact q)
theorem Le.refl {a : St} : Le S a a := fun G w x hr => ⟨G, hr, Keep.refl _ _ _⟩
end Go.Wt

/- The reference: two chains are drawn. -/
set_option linter.unusedVariables false
set_option linter.unusedSimpArgs false
namespace Go.Proofs.YtmhmeppocbcmeaaGreat
open Go Go.Wt
set_option maxHeartbeats 4000000 in
theorem offO_ct (r : Rd) (hp : Far 700000 r) : CtO Tryz.prog 97 [.box 0 (IsLens.whole Rd)] [(0, .cell r)] (.v (OList.mk (offF r).1 true)) [(0, .cell (offF r).2)] := by
  have hc6 := chainV_len hp (by omega)
  have hf1 := chainR_far hp (by omega)
  have hch := chainA_ct r (hp.weak (by omega))
  unfold offF
  generalize chainV r = c at hc6 hch ⊢
  generalize chainR r = r1 at hf1 hch ⊢
  have hf2 : Far 700032 (nx r1 1) := hf1.nx (by omega) (by omega)
  have hf3 : Far 700033 (nx (nx r1 1) 1) := hf2.nx (by omega) (by omega)
  have e2 : nx (nx r1 1) 1 = nx r1 2 := nx_nx r1 1 1
  have e3 : nx (nx (nx r1 1) 1) 1 = nx r1 3 := by rw [e2]; exact nx_nx r1 2 1
  have b3 := pk_bd hf3 (by omega) 3
  have c3 := b3.2 (by omega)
  have g3 := gi_get (l := [0, 30, 31]) b3.1 (by simp; omega)
  have bc := pk_bd hf2 (by omega) (c.length : Int)
  have hx : 0 < c.length → c[(pk (nx r1 1) (c.length : Int)).toNat]? = some (c.getD (pk (nx r1 1) (c.length : Int)).toNat Itm.zero) := fun h0 => by
    have := bc.2 (by omega)
    rw [List.getD_eq_getElem?_getD, List.getElem?_eq_getElem (show (pk (nx r1 1) (c.length : Int)).toNat < c.length by omega)]; rfl
  refine Ct.intro Tryz.func97 rfl rfl ?_
  refine aS (aR ?_)
  refine oC (oA rfl (Conv.of rfl) rfl) ?_
  refine oN ?_
  refine aS (aR ?_)
  refine oC (oM rfl (Conv.of rfl) rfl) ?_
  refine awpOps_callO [(0, .cell r)] rfl fb145 (.cons rfl (Conv.of rfl) (.nil _)) hch (olsk rfl ols0) (kK bC k0) (argOb rfl rfl rfl argO0) rfl ?_
  rintro r_ h' ⟨rfl, rfl⟩
  refine ⟨[(0, .cell r1), (2, .arr c)], rfl, fun o ho => ?_, fun o ho h1 => ?_, kK bC (kK bA k0), fun o ho => ?_, ?_⟩
  · have : o = 0 := by simpa [keys, lk0] using ho
    subst this; rfl
  · by_cases e0 : o = 0
    · subst e0; cases h1
    · have : o = 2 := by simpa [keys, lk0, e0] using ho
      subst this; rfl
  · have : o = 2 := by simpa using (show o ∈ [2] from ho)
    subst this; rfl
  refine oC (oA rfl (Conv.of rfl) rfl) ?_
  refine oN ?_
  refine aS (aS (aR ?_))
  refine oC (oM rfl (Conv.of rfl) rfl) ?_
  refine oC (oLO fb40 (.cons rfl (Conv.of rfl) (.cons rfl (Conv.of rfl) (.nil _))) (pick_ct r1 16 (by unfold Far at hf1; omega)) (olsk rfl ols0) (kK (by exact bC) k0) (kK (by exact bC) k0) rfl (argOb rfl rfl rfl (argOk' rfl rfl argO0)) (fun o ho => by cases ho) rfl) ?_
  refine oN ?_
  refine awp_to (s' := mkSt 50 [(3, .v (OList.mk (offAt c r1).1 true)), (0, .box 0 (IsLens.whole Rd))] [(0, .cell (offAt c r1).2)]) ?_ ?_
  · refine aB ?_
    refine aS (aR ?_)
    refine oC (op_eql rfl rfl rfl) ?_
    refine oC (oA rfl (Conv.of rfl) rfl) ?_
    refine oN ?_
    refine aC rfl (fun h => ?_) (fun h => ?_)
    · have hk := of_decide_eq_true h
      rw [show offAt c r1 = (c ++ [⟨pk (nx r1 1) 4, (anyPayF (nx (nx r1 1) 1)).1⟩], (anyPayF (nx (nx r1 1) 1)).2) by unfold offAt; rw [if_pos hk, e2]]
      refine aR ?_
      refine oC (oM rfl (Conv.of rfl) rfl) ?_
      refine oC (oM rfl (Conv.of rfl) rfl) ?_
      refine oC (oLO fb40 (.cons rfl (Conv.of rfl) (.cons rfl (Conv.of rfl) (.nil _))) (pick_ct (nx r1 1) 4 (by unfold Far at hf2; omega)) (olsk rfl ols0) (kK (by exact bC) k0) (kK (by exact bC) k0) rfl (argOb rfl rfl rfl (argOk' rfl rfl argO0)) (fun o ho => by cases ho) rfl) ?_
      refine oC (oM rfl (Conv.of rfl) rfl) ?_
      refine oC (oLO fb148 (.cons rfl (Conv.of rfl) (.nil _)) (anyPay_ct (nx (nx r1 1) 1) (hf3.weak (by omega))) (olsk rfl ols0) (kK (by exact bC) k0) (kK (by exact bC) k0) rfl (argOb rfl rfl rfl argO0) (fun o ho => by cases ho) rfl) ?_
      refine oC (op_build (.cons f143_0 rfl (Conv.of rfl) (.cons f143_1 rfl (Conv.of rfl) (.nil _))) z143 rfl pl143 rfl) ?_
      refine oC (op_bsl sl27 z143 (.cons rfl (Conv.of rfl) (.nil _)) rfl (by decide) rfl) ?_
      refine oC (op_apA (o' := 3) sl27 z143 ul27 rfl rfl rfl rfl (by simp) (by (simp; omega)) (by (simp; omega)) rfl) ?_
      refine oC (oA rfl (Conv.of rfl) rfl) ?_
      refine oN ?_
      repeat first | refine nS ?_ | refine nB ?_
      exact Le.trans (Le.mk rfl (tlb rfl rfl rfl (tlb rfl rfl rfl tln)) (olk rfl (by exact bA) (olk rfl (by exact bC) oln)) (hU (a := [(0, .cell r)]) rfl)) (Le.own (o := 3) (t := 3) (by show _ ≤ 4611686018427387904; simp; omega) (hU rfl) rfl rfl (oblk bC obl0))
    · have hk := of_decide_eq_false h
      refine aS (aR ?_)
      refine oC (op_eql rfl rfl rfl) ?_
      refine oC (oA rfl (Conv.of rfl) rfl) ?_
      refine oN ?_
      refine aC rfl (fun h2 => ?_) (fun h2 => ?_)
      · have hk2 := of_decide_eq_true h2
        refine aS (aR ?_)
        refine oC (oM rfl (Conv.of rfl) rfl) ?_
        refine oC (oEA sl27 rfl rfl rfl) ?_
        refine oC (op_gtr rfl rfl rfl) ?_
        refine oN ?_
        refine aC rfl (fun h3 => ?_) (fun h3 => ?_)
        · have hpos : 0 < c.length := by have := of_decide_eq_true h3; omega
          have hlt := bc.2 (by omega)
          rw [show offAt c r1 = (c.set (pk (nx r1 1) c.length).toNat { c.getD (pk (nx r1 1) c.length).toNat Itm.zero with epoch := gi [0, 30, 31] (pk (nx (nx r1 1) 1) 3) }, nx (nx (nx r1 1) 1) 1) by unfold offAt; rw [if_neg hk, if_pos hk2, if_pos hpos, e3, e2]]
          refine aR ?_
          refine oC (oM rfl (Conv.of rfl) rfl) ?_
          refine oC (oM rfl (Conv.of rfl) rfl) ?_
          refine oC (oM rfl (Conv.of rfl) rfl) ?_
          refine oC (oEA sl27 rfl rfl rfl) ?_
          refine oC (oLO fb40 (.cons rfl (Conv.of rfl) (.cons rfl (Conv.of rfl) (.nil _))) (pick_ct (nx r1 1) (c.length : Int) (by unfold Far at hf2; omega)) (olsk rfl ols0) (kK (by exact bC) k0) (kK (by exact bC) k0) rfl (argOb rfl rfl rfl (argOk' rfl rfl argO0)) (fun o ho => by cases ho) rfl) ?_
          refine oC (op_bsl sl93 z3 (.cons rfl (Conv.of rfl) (.cons rfl (Conv.of rfl) (.cons rfl (Conv.of rfl) (.nil _)))) rfl (by decide) rfl) ?_
          refine oC (oM rfl (Conv.of rfl) rfl) ?_
          refine oC (oLO fb40 (.cons rfl (Conv.of rfl) (.cons rfl (Conv.of rfl) (.nil _))) (pick_ct (nx (nx r1 1) 1) 3 (by unfold Far at hf3; omega)) (olsk rfl ols0) (kK (by exact bC) k0) (kK (by exact bC) k0) rfl (argOb rfl rfl rfl (argOk' rfl rfl argO0)) (fun o ho => by cases ho) rfl) ?_
          refine oC (op_ix sl93 rfl rfl rfl b3.1 g3) ?_
          refine oC (oDR ty3 rfl rfl) ?_
          refine oC (op_ixA sl27 rfl rfl rfl rfl ⟨bc.1, by omega⟩) ?_
          refine oC (oFE f143_0 rfl rfl) ?_
          refine oC (op_ste ty3 rfl rfl (Conv.of rfl) rfl (hx hpos)) ?_
          refine oN ?_
          repeat first | refine nS ?_ | refine nB ?_
          exact Le.trans (Le.mk rfl (tlb rfl rfl rfl (tlb rfl rfl rfl tln)) (olk rfl (by exact bA) (olk rfl (by exact bC) oln)) (hU (a := [(0, .cell r)]) rfl)) (Le.own (o := 2) (t := 3) (by show _ ≤ 4611686018427387904; simp; omega) (hU rfl) rfl rfl (oblk bC obl0))
        · have hpos : ¬ 0 < c.length := by have := of_decide_eq_false h3; omega
          rw [show offAt c r1 = (c, nx r1 1) by unfold offAt; rw [if_neg hk, if_pos hk2, if_neg hpos]]
          refine aW ?_
          repeat first | refine nS ?_ | refine nB ?_
          exact Le.trans (Le.mk rfl (tlb rfl rfl rfl (tlb rfl rfl rfl tln)) (olk rfl (by exact bA) (olk rfl (by exact bC) oln)) (hU (a := [(0, .cell r)]) rfl)) (Le.own (o := 2) (t := 3) (by show _ ≤ 4611686018427387904; omega) (hU rfl) rfl rfl (oblk bC obl0))
      · have hk2 := of_decide_eq_false h2
        refine aS (aR ?_)
        refine oC (op_eql rfl rfl rfl) ?_
        refine oC (oA rfl (Conv.of rfl) rfl) ?_
        refine oN ?_
        refine aC rfl (fun h3 => ?_) (fun h3 => ?_)
        · have hk3 := of_decide_eq_true h3
          refine aS (aR ?_)
          refine oC (op_mvo rfl rfl rfl rfl) ?_
          refine oC (oEA sl27 rfl rfl rfl) ?_
          refine oC (op_gtr rfl rfl rfl) ?_
          refine oN ?_
          refine aC rfl (fun h4 => ?_) (fun h4 => ?_)
          · have hpos : 0 < c.length := by have := of_decide_eq_true h4; omega
            have hlt := bc.2 (by omega)
            rw [show offAt c r1 = (c.set (pk (nx r1 1) c.length).toNat { c.getD (pk (nx r1 1) c.length).toNat Itm.zero with pay := (anyPayF (nx (nx r1 1) 1)).1 }, (anyPayF (nx (nx r1 1) 1)).2) by unfold offAt; rw [if_neg hk, if_neg hk2, if_pos hk3, if_pos hpos, e2]]
            refine aR ?_
            refine oC (oM rfl (Conv.of rfl) rfl) ?_
            refine oC (oM rfl (Conv.of rfl) rfl) ?_
            refine oC (oM rfl (Conv.of rfl) rfl) ?_
            refine oC (oEA sl27 rfl rfl rfl) ?_
            refine oC (oLO fb40 (.cons rfl (Conv.of rfl) (.cons rfl (Conv.of rfl) (.nil _))) (pick_ct (nx r1 1) (c.length : Int) (by unfold Far at hf2; omega)) (olsk rfl ols0) (kK (by exact bC) k0) (kK (by exact bC) k0) rfl (argOb rfl rfl rfl (argOk' rfl rfl argO0)) (fun o ho => by cases ho) rfl) ?_
            refine oC (oM rfl (Conv.of rfl) rfl) ?_
            refine oC (oLO fb148 (.cons rfl (Conv.of rfl) (.nil _)) (anyPay_ct (nx (nx r1 1) 1) (hf3.weak (by omega))) (olsk rfl ols0) (kK (by exact bC) k0) (kK (by exact bC) k0) rfl (argOb rfl rfl rfl argO0) (fun o ho => by cases ho) rfl) ?_
            refine oC (op_ixA sl27 rfl rfl rfl rfl ⟨bc.1, by omega⟩) ?_
            refine oC (oFE f143_1 rfl rfl) ?_
            refine oC (op_ste ty75 rfl rfl (Conv.of rfl) rfl (hx hpos)) ?_
            refine oN ?_
            repeat first | refine nS ?_ | refine nB ?_
            exact Le.trans (Le.mk rfl (tlb rfl rfl rfl (tlb rfl rfl rfl tln)) (olk rfl (by exact bA) (olk rfl (by exact bC) oln)) (hU (a := [(0, .cell r)]) rfl)) (Le.own (o := 2) (t := 3) (by show _ ≤ 4611686018427387904; simp; omega) (hU rfl) rfl rfl (oblk bC obl0))
          · have hpos : ¬ 0 < c.length := by have := of_decide_eq_false h4; omega
            rw [show offAt c r1 = (c, nx r1 1) by unfold offAt; rw [if_neg hk, if_neg hk2, if_pos hk3, if_neg hpos]]
            refine aW ?_
            repeat first | refine nS ?_ | refine nB ?_
            exact Le.trans (Le.mk rfl (tlb rfl rfl rfl (tlb rfl rfl rfl tln)) (olk rfl (by exact bA) (olk rfl (by exact bC) oln)) (hU (a := [(0, .cell r)]) rfl)) (Le.own (o := 2) (t := 3) (by show _ ≤ 4611686018427387904; omega) (hU rfl) rfl rfl (oblk bC obl0))
        · have hk3 := of_decide_eq_false h3
          rw [show offAt c r1 = (c, nx r1 1) by unfold offAt; rw [if_neg hk, if_neg hk2, if_neg hk3]]
          refine aW ?_
          repeat first | refine nS ?_ | refine nB ?_
          exact Le.trans (Le.mk rfl (tlb rfl rfl rfl (tlb rfl rfl rfl tln)) (olk rfl (by exact bA) (olk rfl (by exact bC) oln)) (hU (a := [(0, .cell r)]) rfl)) (Le.own (o := 2) (t := 3) (by show _ ≤ 4611686018427387904; omega) (hU rfl) rfl rfl (oblk bC obl0))
  · refine aS (aR ?_)
    refine oC (op_mvl rfl rfl rfl rfl) ?_
    refine oC (op_asl rfl rfl rfl rfl) ?_
    refine oN ?_
    refine aT ?_
    repeat first | refine rS ?_ | refine rB ?_
    exact ⟨_, _, res1M (ol := [(0, .cell (offAt c r1).2)]) rfl (fun o ho => by cases ho) (olk rfl bC oln) (hK rfl), rfl, rfl⟩
theorem off_bd {r : Rd} (h : Far 600000 r) : r.p ≤ (offF r).2.p ∧ (offF r).2.p ≤ r.p + 40 := by
  have h1 := off_ge h (by omega)
  have h0 : Far r.p r := ⟨h.1, Int.le_refl _⟩
  have h2 := off_far (m := r.p) (m' := r.p + 40) h0 (by have := h.2; omega) (by omega)
  exact ⟨h1, h2.2⟩
set_option maxHeartbeats 4000000 in
theorem l71Two_ct (r : Rd) (hp : Far 500000 r) : Ct Tryz.prog 147 [.box 0 (IsLens.whole Rd)] (obs [(0, .cell r)]) (fun r1 h1 => ∃ (a b : List Itm) (r' : Rd), r1 = .tup [.v a, .v b] ∧ h1 = obs [(0, .cell r')] ∧ a.length ≤ 20 ∧ b.length ≤ 20 ∧ r.p ≤ r'.p ∧ r'.p ≤ r.p + 120) := by
  have g1 := off_bd (hp.weak (by omega))
  have l1 := off_len hp (by omega)
  have k1 := off_ct r (hp.weak (by omega))
  generalize (offF r).1 = c1 at l1 k1
  generalize (offF r).2 = r1 at g1 k1
  have hf1 : Far 500040 r1 := by unfold Far at hp ⊢; omega
  have g2 := off_bd (hf1.weak (by omega))
  have l2 := off_len hf1 (by omega)
  have k2 := offO_ct r1 (hf1.weak (by omega))
  generalize (offF r1).1 = c2 at l2 k2
  generalize (offF r1).2 = r2 at g2 k2
  have hf2 : Far 500080 r2 := by unfold Far at hf1 ⊢; omega
  have hf3 : Far 500081 (nx r2 1) := hf2.nx (by omega) (by omega)
  have hf4 : Far 500082 (nx (nx r2 1) 1) := hf3.nx (by omega) (by omega)
  have b3 := pk_bd hf3 (by omega) ((c1.length : Int) + 1)
  have b3' := b3.2 (by omega)
  have b4 := pk_bd hf4 (by omega) 3
  have b4' := b4.2 (by omega)
  refine Ct.intro Tryz.func147 rfl rfl ?_
  refine aS (aR ?_)
  refine oC (oA rfl (Conv.of rfl) rfl) ?_
  refine oC (oA rfl (Conv.of rfl) rfl) ?_
  refine oN ?_
  refine aS (aR ?_)
  refine oC (oM rfl (Conv.of rfl) rfl) ?_
  refine oC (oLO fb97 (.cons rfl (Conv.of rfl) (.nil _)) (k1) (olsk rfl ols0) (kK (by exact bC) k0) (kK (by exact bC) k0) rfl (argOb rfl rfl rfl argO0) (fun o ho => by cases ho) rfl) ?_
  refine oC (oA rfl (Conv.of rfl) rfl) ?_
  refine oN ?_
  refine aS (aR ?_)
  refine oC (oM rfl (Conv.of rfl) rfl) ?_
  refine oC (oLO fb97 (.cons rfl (Conv.of rfl) (.nil _)) (k2) (olsk rfl ols0) (kK (by exact bC) k0) (kK (by exact bC) k0) rfl (argOb rfl rfl rfl argO0) (fun o ho => by cases ho) rfl) ?_
  refine oC (op_asl rfl rfl rfl rfl) ?_
  refine oN ?_
  refine aS (aS (aR ?_))
  refine oC (oM rfl (Conv.of rfl) rfl) ?_
  refine oC (oLO fb40 (.cons rfl (Conv.of rfl) (.cons rfl (Conv.of rfl) (.nil _))) (pick_ct r2 4 (by unfold Far at hf2; omega)) (olsk rfl ols0) (kK (by exact bC) k0) (kK (by exact bC) k0) rfl (argOb rfl rfl rfl (argOk' rfl rfl argO0)) (fun o ho => by cases ho) rfl) ?_
  refine oC (op_gtr rfl rfl rfl) ?_
  refine oN ?_
  refine nS (awp_to_ex (ι := List Itm × Rd) (fun i => mkSt 58 [(0, .box 0 (IsLens.whole Rd)), (4, .v c1), (5, .v (OList.mk i.1 true))] [(0, .cell i.2)]) (fun i => i.1.length ≤ 12 ∧ r.p ≤ i.2.p ∧ i.2.p ≤ r.p + 110) ?_ ?_)
  · refine aC rfl (fun h => ?_) (fun h => ?_)
    · refine aS (aR ?_)
      refine oC (op_bsl sl27 z143 (.nil _) rfl (by decide) rfl) ?_
      refine oC (oM rfl (Conv.of rfl) rfl) ?_
      refine oC (oM rfl (Conv.of rfl) rfl) ?_
      refine oC (oM rfl (Conv.of rfl) rfl) ?_
      refine oC (oE sl27 rfl rfl) ?_
      refine oC (oP rfl rfl rfl (by omega)) ?_
      refine oC (oLO fb40 (.cons rfl (Conv.of rfl) (.cons rfl (Conv.of rfl) (.nil _))) (pick_ct (nx r2 1) ((c1.length : Int) + 1) (by unfold Far at hf3; omega)) (olsk rfl ols0) (kK (by exact bC) k0) (kK (by exact bC) k0) rfl (argOb rfl rfl rfl (argOk' rfl rfl argO0)) (fun o ho => by cases ho) rfl) ?_
      refine oC (op_slh sl27 rfl rfl rfl ⟨b3.1, by omega⟩) ?_
      refine oC (op_app sl27 z143 ul27 rfl rfl rfl (by (simp; omega)) (by (simp; omega)) rfl rfl) ?_
      refine oC (op_asl rfl rfl rfl rfl) ?_
      refine oN ?_
      refine aS (aR ?_)
      refine oC (oM rfl (Conv.of rfl) rfl) ?_
      refine oC (oLO fb40 (.cons rfl (Conv.of rfl) (.cons rfl (Conv.of rfl) (.nil _))) (pick_ct (nx (nx r2 1) 1) 3 (by unfold Far at hf4; omega)) (olsk rfl ols0) (kK (by exact bC) k0) (kK (by exact bC) k0) rfl (argOb rfl rfl rfl (argOk' rfl rfl argO0)) (fun o ho => by cases ho) rfl) ?_
      refine oC (oA rfl (Conv.of rfl) rfl) ?_
      refine oN ?_
      refine aB ?_
      refine awp_loop' (fun n_ s => ∃ (k : Nat), ∃ (xs : List Itm), ∃ (rr : Rd), ∃ (hk : n_ = k), ∃ (hxs : xs.length + k ≤ 12), ∃ (hr : r.p ≤ rr.p ∧ rr.p + 4 * (k : Int) ≤ r.p + 100), s = mkSt 58 [(0, .box 0 (IsLens.whole Rd)), (4, .v c1), (5, .v (OList.mk xs true)), (6, .v (k : Int))] [(0, .cell rr)]) ((pk (nx (nx r2 1) 1) 3).toNat) ⟨(pk (nx (nx r2 1) 1) 3).toNat, ([] ++ c1.take (pk (nx r2 1) ((c1.length : Int) + 1)).toNat), nx (nx (nx r2 1) 1) 1, rfl, (by simp; omega), (by have e9 : (nx (nx (nx r2 1) 1) 1).p = r2.p + 3 := (by simp only [nx]; omega); omega), rfl⟩ (Le.mk rfl (tlb rfl rfl rfl (tle rfl (rfl) rfl (tle rfl (rfl) rfl (tle rfl (by (show AV.v _ = AV.v _; congr 1; omega)) rfl tln)))) (olk rfl (by exact bC) oln) (hU (a := [(0, .cell r)]) rfl)) ?_
      rintro n_ s ⟨k, xs, rr, hk, hxs, hr, rfl⟩
      refine aS (aS (aR ?_))
      refine oC (oM rfl (Conv.of rfl) rfl) ?_
      refine oC (op_gtr rfl rfl rfl) ?_
      refine oN ?_
      refine aC rfl (fun h2 => ?_) (fun h2 => ?_)
      · have hk0 : 0 < k := by have := of_decide_eq_true h2; omega
        have hf5 : Far 500300 rr := by unfold Far at hp ⊢; omega
        have hf6 : Far 500301 (nx rr 1) := hf5.nx (by omega) (by omega)
        have b5 := pk_bd hf5 (by omega) 2
        refine aW ?_
        refine aS (aB ?_)
        refine aS (aR ?_)
        refine oC (oA rfl (Conv.of rfl) rfl) ?_
        refine oN ?_
        refine aS (aS (aR ?_))
        refine oC (oM rfl (Conv.ol) rfl) ?_
        refine oC (oE sl27 rfl rfl) ?_
        refine oC (op_gtr rfl rfl rfl) ?_
        refine oN ?_
        refine nS (awp_to_ex (ι := Int) (fun i => mkSt 58 [(0, .box 0 (IsLens.whole Rd)), (4, .v c1), (5, .v (OList.mk xs true)), (6, .v (k : Int)), (7, .v i)] [(0, .cell rr)]) (fun i => True) ?_ ?_)
        · refine aC rfl (fun h3 => ?_) (fun h3 => ?_)
          · have hpos : 0 < xs.length := by have := of_decide_eq_true h3; omega
            have hx : xs[((xs.length : Int) - 1).toNat]? = some (xs[((xs.length : Int) - 1).toNat]'(by omega)) := List.getElem?_eq_getElem (by omega)
            refine aR ?_
            refine oC (oM rfl (Conv.ol) rfl) ?_
            refine oC (oM rfl (Conv.ol) rfl) ?_
            refine oC (oE sl27 rfl rfl) ?_
            refine oC (op_sub rfl rfl rfl (by omega)) ?_
            refine oC (op_ix sl27 rfl rfl rfl (by omega) hx) ?_
            refine oC (oFR f143_0 rfl rfl) ?_
            refine oC (oDR ty3 rfl rfl) ?_
            refine oC (oA rfl (Conv.of rfl) rfl) ?_
            refine oN ?_
            exact nS ⟨(xs[((xs.length : Int) - 1).toNat]'(by omega)).epoch, trivial, Le.mk rfl (tlb rfl rfl rfl (tle rfl (rfl) rfl (tle rfl (rfl) rfl (tle rfl (rfl) rfl (tle rfl (rfl) rfl tln))))) (olk rfl (by exact bC) oln) (hU (a := [(0, .cell r)]) rfl)⟩
          · refine aW ?_
            exact nS ⟨0, trivial, Le.mk rfl (tlb rfl rfl rfl (tle rfl (rfl) rfl (tle rfl (rfl) rfl (tle rfl (rfl) rfl (tle rfl (rfl) rfl tln))))) (olk rfl (by exact bC) oln) (hU (a := [(0, .cell r)]) rfl)⟩
        · rintro e -
          refine aR ?_
          refine oC (op_mvl rfl rfl rfl rfl) ?_
          refine oC (oM rfl (Conv.of rfl) rfl) ?_
          refine oC (op_addw rfl rfl rfl) ?_
          refine oC (oM rfl (Conv.of rfl) rfl) ?_
          refine oC (oLO fb40 (.cons rfl (Conv.of rfl) (.cons rfl (Conv.of rfl) (.nil _))) (pick_ct rr 2 (by unfold Far at hf5; omega)) (olsk rfl ols0) (kK (by exact bC) k0) (kK (by exact bC) k0) rfl (argOb rfl rfl rfl (argOk' rfl rfl argO0)) (fun o ho => by cases ho) rfl) ?_
          refine oC (op_addw rfl rfl rfl) ?_
          refine oC (oM rfl (Conv.of rfl) rfl) ?_
          refine oC (oLO fb39 (.cons rfl (Conv.of rfl) (.nil _)) (l71Pay_ct (nx rr 1) (hf6.weak (by omega))) (olsk rfl ols0) (kK (by exact bC) k0) (kK (by exact bC) k0) rfl (argOb rfl rfl rfl argO0) (fun o ho => by cases ho) rfl) ?_
          refine oC (op_build (.cons f143_0 rfl (Conv.of rfl) (.cons f143_1 rfl (Conv.of rfl) (.nil _))) z143 rfl pl143 rfl) ?_
          refine oC (op_bsl sl27 z143 (.cons rfl (Conv.of rfl) (.nil _)) rfl (by decide) rfl) ?_
          refine oC (op_app sl27 z143 ul27 rfl rfl rfl (by (simp; omega)) (by (simp; omega)) rfl rfl) ?_
          refine oC (op_asl rfl rfl rfl rfl) ?_
          refine oN ?_
          refine aR ?_
          refine oC (oM rfl (Conv.of rfl) rfl) ?_
          refine oC (op_sub rfl rfl rfl (by omega)) ?_
          refine oC (oA rfl (Conv.of rfl) rfl) ?_
          refine oN ?_
          repeat first | refine nS ?_ | refine nB ?_
          exact ⟨n_ - 1, _, by omega, ⟨k - 1, xs ++ [⟨IntKind.i64.wrap (IntKind.i64.wrap (e + 1) + pk rr 2), payV (nx rr 1)⟩], nx (nx rr 1) 3, (by omega), (by simp; omega), (by simp only [nx]; omega), rfl⟩, Le.mk rfl (tlb rfl rfl rfl (tle rfl (rfl) rfl (tle rfl (rfl) rfl (tle rfl (by (show AV.v _ = AV.v _; congr 1; omega)) rfl tln)))) (olk rfl (by exact bC) oln) (hU (a := [(0, .cell r)]) rfl)⟩
      · refine aE ?_
        repeat refine ex_seq ?_
        refine eB ?_
        repeat first | refine nS ?_ | refine nB ?_
        exact ⟨(xs, rr), ⟨by show xs.length ≤ 12; omega, by show r.p ≤ rr.p; omega, by show rr.p ≤ r.p + 110; omega⟩, Le.mk rfl (tlb rfl rfl rfl (tle rfl (rfl) rfl (tle rfl (rfl) rfl tln))) (olk rfl (by exact bC) oln) (hU (a := [(0, .cell r)]) rfl)⟩
    · refine aW ?_
      exact nS ⟨(c2, nx r2 1), ⟨by show c2.length ≤ 12; omega, by simp only [nx]; omega, by simp only [nx]; omega⟩, Le.mk rfl (tlb rfl rfl rfl (tle rfl (rfl) rfl (tle rfl (rfl) rfl tln))) (olk rfl (by exact bC) oln) (hU (a := [(0, .cell r)]) rfl)⟩
  · rintro ⟨c3, r3⟩ ⟨q1, q2, q3⟩
    simp only at q1 q2 q3 ⊢
    have hf7 : Far 500200 r3 := by unfold Far at hp ⊢; omega
    refine aS (aS (aR ?_))
    refine oC (oM rfl (Conv.of rfl) rfl) ?_
    refine oC (oLO fb40 (.cons rfl (Conv.of rfl) (.cons rfl (Conv.of rfl) (.nil _))) (pick_ct r3 2 (by unfold Far at hf7; omega)) (olsk rfl ols0) (kK (by exact bC) k0) (kK (by exact bC) k0) rfl (argOb rfl rfl rfl (argOk' rfl rfl argO0)) (fun o ho => by cases ho) rfl) ?_
    refine oC (op_eql rfl rfl rfl) ?_
    refine oN ?_
    refine aC rfl (fun h => ?_) (fun h => ?_)
    · refine aS (aR ?_)
      refine oC (op_mvl rfl rfl rfl rfl) ?_
      refine oC (oM rfl (Conv.of rfl) rfl) ?_
      refine oC (op_asl rfl rfl rfl rfl) ?_
      refine oC (oA rfl (Conv.of rfl) rfl) ?_
      refine oN ?_
      refine aT ?_
      repeat first | refine rS ?_ | refine rB ?_
      exact ⟨_, _, resN (ol := [(0, .cell (nx r3 1))]) (.cons (.v rfl Conv.ol) (.cons (.v rfl (Conv.of rfl)) .nil)) rfl (fun o ho => absurd (show o ∈ ([] : List Nat) from ho) (by simp)) (olk rfl bC oln) (hU rfl), c3, c1, _, rfl, rfl, by omega, by omega, by simp only [nx]; omega, by simp only [nx]; omega⟩
    · refine aW ?_
      refine aS (aR ?_)
      refine oC (oM rfl (Conv.of rfl) rfl) ?_
      refine oC (op_mvl rfl rfl rfl rfl) ?_
      refine oC (oA rfl (Conv.of rfl) rfl) ?_
      refine oC (op_asl rfl rfl rfl rfl) ?_
      refine oN ?_
      refine aT ?_
      repeat first | refine rS ?_ | refine rB ?_
      exact ⟨_, _, resN (ol := [(0, .cell (nx r3 1))]) (.cons (.v rfl (Conv.of rfl)) (.cons (.v rfl Conv.ol) .nil)) rfl (fun o ho => absurd (show o ∈ ([] : List Nat) from ho) (by simp)) (olk rfl bC oln) (hU rfl), c1, c3, _, rfl, rfl, by omega, by omega, by simp only [nx]; omega, by simp only [nx]; omega⟩
end Go.Proofs.YtmhmeppocbcmeaaGreat

/- The reference: votes are drawn for certificates. -/
set_option linter.unusedVariables false
set_option linter.unusedSimpArgs false
namespace Go.Proofs.YtmhmeppocbcmeaaGreat
open Go Go.Wt
theorem chain_bd {r : Rd} (h : Far 600000 r) : r.p ≤ (chainR r).p ∧ (chainR r).p ≤ r.p + 31 := by
  have h1 := chainR_ge h (by omega)
  have h0 : Far r.p r := ⟨h.1, Int.le_refl _⟩
  have h2 := chainR_far (m := r.p) h0 (by have := h.2; omega)
  exact ⟨h1, h2.2⟩
theorem add_len (l : List Vote) (v : Vote) : (if decide (v ∈ l) then l else l ++ [v]).length ≤ l.length + 1 := by
  split <;> simp
theorem add_sc {l : List Vote} {v : Vote} {n : Nat} (h : ∀ u ∈ l, u.chain.length ≤ n) (hv : v.chain.length ≤ n) : ∀ u ∈ (if decide (v ∈ l) then l else l ++ [v]), u.chain.length ≤ n := fun u hu => by
  split at hu
  · exact h u hu
  · rcases List.mem_append.1 hu with q | q
    · exact h u q
    · simp at q; subst q; exact hv
set_option maxHeartbeats 8000000 in
theorem l71Votes_ct (r : Rd) (hp : Far 400000 r) : Ct Tryz.prog 96 [.box 0 (IsLens.whole Rd)] (obs [(0, .cell r)]) (fun r1 h1 => ∃ (l : List Vote) (r' : Rd), r1 = .v l ∧ h1 = obs [(0, .cell r')] ∧ l.length ≤ 1000 ∧ (∀ v ∈ l, v.chain.length ≤ 20) ∧ r.p ≤ r'.p ∧ r'.p ≤ r.p + 1000) := by
  have hc6 := chainV_len hp (by omega)
  have hf0 := chain_bd (hp.weak (by omega))
  have hch := l71Chain_ct r (hp.weak (by omega))
  generalize chainV r = c0 at hc6 hch
  generalize chainR r = r0 at hf0 hch
  have hf1 : Far 400031 r0 := by unfold Far at hp ⊢; omega
  have b1 := pk_bd hf1 (by omega) 3
  have b1' := b1.2 (by omega)
  refine Ct.intro Tryz.func96 rfl rfl ?_
  all_goals refine aS (aR ?_)
  all_goals refine oC (oA rfl (Conv.of rfl) rfl) ?_
  all_goals refine oN ?_
  all_goals refine aS (aR ?_)
  all_goals refine oC (op_bsl sl24 z38 (.nil _) rfl (by decide) rfl) ?_
  all_goals refine oC (op_asl rfl rfl rfl rfl) ?_
  all_goals refine oN ?_
  all_goals refine aS (aR ?_)
  all_goals refine oC (oM rfl (Conv.of rfl) rfl) ?_
  all_goals refine oC (oLO fb145 (.cons rfl (Conv.of rfl) (.nil _)) (hch) (olsk rfl ols0) (kK (by exact bC) k0) (kK (by exact bC) k0) rfl (argOb rfl rfl rfl argO0) (fun o ho => by cases ho) rfl) ?_
  all_goals refine oC (oA rfl (Conv.of rfl) rfl) ?_
  all_goals refine oN ?_
  all_goals refine aS (aS (aR ?_))
  all_goals refine oC (oM rfl (Conv.of rfl) rfl) ?_
  all_goals refine oC (oLO fb40 (.cons rfl (Conv.of rfl) (.cons rfl (Conv.of rfl) (.nil _))) (pick_ct r0 3 (by unfold Far at hf1; omega)) (olsk rfl ols0) (kK (by exact bC) k0) (kK (by exact bC) k0) rfl (argOb rfl rfl rfl (argOk' rfl rfl argO0)) (fun o ho => by cases ho) rfl) ?_
  all_goals refine oC (oP rfl rfl rfl (by omega)) ?_
  all_goals refine oC (oA rfl (Conv.of rfl) rfl) ?_
  all_goals refine oN ?_
  refine aB ?_
  refine awp_loop' (fun n_ s => ∃ (k : Nat), ∃ (vs : List Vote), ∃ (c : List Itm), ∃ (rr : Rd), ∃ (hk : n_ = k), ∃ (hl : vs.length + 80 * k ≤ 240), ∃ (hv : ∀ v ∈ vs, v.chain.length ≤ 20), ∃ (hc : c.length ≤ 20), ∃ (hr : r.p ≤ rr.p ∧ rr.p + 300 * (k : Int) ≤ r.p + 950), s = mkSt 80 [(0, .box 0 (IsLens.whole Rd)), (3, .v (OList.mk vs true)), (4, .v c), (5, .v (k : Int))] [(0, .cell rr)]) ((1 + pk r0 3).toNat) ⟨(1 + pk r0 3).toNat, [], c0, nx r0 1, rfl, (by simp only [List.length_nil]; omega), (fun v hv => by cases hv), (by omega), (by have e9 : (nx r0 1).p = r0.p + 1 := rfl; omega), rfl⟩ (Le.mk rfl (tlb rfl rfl rfl (tle rfl (rfl) rfl (tle rfl (rfl) rfl (tle rfl (by (show AV.v _ = AV.v _; congr 1; omega)) rfl tln)))) (olk rfl (by exact bC) oln) (hU (a := [(0, .cell r)]) rfl)) ?_
  rintro n_ s ⟨k, vs, c, rr, hk, hl, hv, hc, hr, rfl⟩
  all_goals refine aS (aS (aR ?_))
  all_goals refine oC (oM rfl (Conv.of rfl) rfl) ?_
  all_goals refine oC (op_gtr rfl rfl rfl) ?_
  all_goals refine oN ?_
  refine aC rfl (fun h => ?_) (fun h => ?_)
  · have hk0 : 0 < k := by have := of_decide_eq_true h; omega
    refine aW ?_
    refine aS (aB ?_)
    all_goals refine aS (aS (aR ?_))
    all_goals refine oC (oA rfl (Conv.of rfl) rfl) ?_
    all_goals refine oN ?_
    refine nS (awp_to_ex (ι := List Vote × Rd) (fun i => mkSt 80 [(0, .box 0 (IsLens.whole Rd)), (3, .v (OList.mk i.1 true)), (4, .v c), (5, .v (k : Int))] [(0, .cell i.2)]) (fun i => i.1.length ≤ vs.length + 80 ∧ (∀ v ∈ i.1, v.chain.length ≤ 20) ∧ rr.p ≤ i.2.p ∧ i.2.p ≤ rr.p + 80) ?_ ?_)
    · refine aB ?_
      refine awp_loop' (fun n_ s => ∃ (j : Nat), ∃ (vs2 : List Vote), ∃ (r2 : Rd), ∃ (hj : n_ + j = c.length), ∃ (hl2 : vs2.length ≤ vs.length + 4 * j), ∃ (hv2 : ∀ v ∈ vs2, v.chain.length ≤ 20), ∃ (hr2 : rr.p ≤ r2.p ∧ r2.p ≤ rr.p + 4 * (j : Int)), s = mkSt 80 [(0, .box 0 (IsLens.whole Rd)), (3, .v (OList.mk vs2 true)), (4, .v c), (5, .v (k : Int)), (6, .v ((j : Int) + 1))] [(0, .cell r2)]) (c.length) ⟨0, vs, rr, by omega, (by omega), hv, (by omega), rfl⟩ (Le.mk rfl (tlb rfl rfl rfl (tle rfl (rfl) rfl (tle rfl (rfl) rfl (tle rfl (rfl) rfl (tle rfl (rfl) rfl tln))))) (olk rfl (by exact bC) oln) (hU (a := [(0, .cell r)]) rfl)) ?_
      rintro n_ s ⟨j, vs2, r2, hj, hl2, hv2, hr2, rfl⟩
      all_goals refine aS (aS (aR ?_))
      all_goals refine oC (oM rfl (Conv.of rfl) rfl) ?_
      all_goals refine oC (oM rfl (Conv.of rfl) rfl) ?_
      all_goals refine oC (oE sl27 rfl rfl) ?_
      all_goals refine oC (op_leq rfl rfl rfl) ?_
      all_goals refine oN ?_
      refine aC rfl (fun h2 => ?_) (fun h2 => ?_)
      · have hj2 : j < c.length := by have := of_decide_eq_true h2; omega
        refine aW ?_
        refine aS (aB ?_)
        all_goals refine aS (aR ?_)
        all_goals refine oC (oA rfl (Conv.of rfl) rfl) ?_
        all_goals refine oN ?_
        refine nS (awp_toB_ex (ι := List Vote × Rd) (fun i => mkSt 80 [(0, .box 0 (IsLens.whole Rd)), (3, .v (OList.mk i.1 true)), (4, .v c), (5, .v (k : Int)), (6, .v ((j : Int) + 1))] [(0, .cell i.2)]) (fun i => i.1.length ≤ vs2.length + 4 ∧ (∀ v ∈ i.1, v.chain.length ≤ 20) ∧ r2.p ≤ i.2.p ∧ i.2.p ≤ r2.p + 4) ?_ ?_)
        · refine aB ?_
          refine awp_loop' (fun n_ s => ∃ (i : Nat), ∃ (vs3 : List Vote), ∃ (r3 : Rd), ∃ (hi : n_ + i = 4), ∃ (hl3 : vs3.length ≤ vs2.length + i), ∃ (hv3 : ∀ v ∈ vs3, v.chain.length ≤ 20), ∃ (hr3 : r2.p ≤ r3.p ∧ r3.p ≤ r2.p + (i : Int)), s = mkSt 80 [(0, .box 0 (IsLens.whole Rd)), (3, .v (OList.mk vs3 true)), (4, .v c), (5, .v (k : Int)), (6, .v ((j : Int) + 1)), (7, .v ((i : Int) + 1))] [(0, .cell r3)]) (4) ⟨0, vs2, r2, by omega, (by omega), hv2, (by omega), rfl⟩ (Le.mk rfl (tlb rfl rfl rfl (tle rfl (rfl) rfl (tle rfl (rfl) rfl (tle rfl (rfl) rfl (tle rfl (rfl) rfl (tle rfl (rfl) rfl tln)))))) (olk rfl (by exact bC) oln) (hU (a := [(0, .cell r)]) rfl)) ?_
          rintro n_ s ⟨i, vs3, r3, hi, hl3, hv3, hr3, rfl⟩
          all_goals refine aS (aS (aR ?_))
          all_goals refine oC (oM rfl (Conv.of rfl) rfl) ?_
          all_goals refine oC (op_leq rfl rfl rfl) ?_
          all_goals refine oN ?_
          refine aC rfl (fun h3 => ?_) (fun h3 => ?_)
          · have hi4 : i < 4 := by have := of_decide_eq_true h3; omega
            have hf3 : Far 401000 r3 := by unfold Far at hp ⊢; omega
            refine aW ?_
            refine aS (aB ?_)
            all_goals refine aS (aR ?_)
            all_goals refine oC (oM rfl (Conv.of rfl) rfl) ?_
            all_goals refine oC (oLO fb40 (.cons rfl (Conv.of rfl) (.cons rfl (Conv.of rfl) (.nil _))) (pick_ct r3 9 (by unfold Far at hf3; omega)) (olsk rfl ols0) (kK (by exact bC) k0) (kK (by exact bC) k0) rfl (argOb rfl rfl rfl (argOk' rfl rfl argO0)) (fun o ho => by cases ho) rfl) ?_
            all_goals refine oC (op_gtr rfl rfl rfl) ?_
            all_goals refine oN ?_
            refine nS (awp_toB_ex (ι := List Vote) (fun q => mkSt 80 [(0, .box 0 (IsLens.whole Rd)), (3, .v (OList.mk q true)), (4, .v c), (5, .v (k : Int)), (6, .v ((j : Int) + 1)), (7, .v ((i : Int) + 1))] [(0, .cell (nx r3 1))]) (fun q => q.length ≤ vs3.length + 1 ∧ (∀ v ∈ q, v.chain.length ≤ 20)) ?_ ?_)
            · refine aC rfl (fun h4 => ?_) (fun h4 => ?_)
              · have htk : (Vote.mk ((i : Int) + 1) (c.take ((j : Int) + 1).toNat)).chain.length ≤ 20 := by
                  show (c.take ((j : Int) + 1).toNat).length ≤ 20
                  rw [List.length_take]; omega
                all_goals refine aR ?_
                all_goals refine oC (op_mvl rfl rfl rfl rfl) ?_
                all_goals refine oC (oM rfl (Conv.of rfl) rfl) ?_
                all_goals refine oC (oM rfl (Conv.of rfl) rfl) ?_
                all_goals refine oC (oM rfl (Conv.of rfl) rfl) ?_
                all_goals refine oC (op_slh sl27 rfl rfl rfl ⟨by omega, by omega⟩) ?_
                all_goals refine oC (op_build (.cons f38_0 rfl (Conv.of rfl) (.cons f38_1 rfl (Conv.of rfl) (.nil _))) z38 rfl pl38 rfl) ?_
                all_goals refine oC (oLM (s := 34) (ol := []) (ol' := []) (pre := []) fb146 (.nil _) rfl (.cons rfl (Conv.of rfl) (.nil _)) (l3Add_ct vs3 ⟨(i : Int) + 1, c.take ((j : Int) + 1).toNat⟩ (by omega) (by omega)) ols0 k0 k0 rfl argO0 (argOk' rfl rfl argO0) (fun o ho => absurd (show o ∈ ([] : List Nat) from ho) (by simp)) (fun o ho => absurd (show o ∈ ([] : List Nat) from ho) (by simp)) rfl) ?_
                all_goals refine oC (op_mvo rfl rfl rfl rfl) ?_
                all_goals refine oC (op_extm rfl rfl rfl rfl) ?_
                all_goals refine oC (op_ext rfl rfl rfl) ?_
                all_goals refine oC (op_asl rfl rfl rfl rfl) ?_
                all_goals refine oN ?_
                repeat first | refine nS ?_ | refine nB ?_
                exact ⟨_, ⟨add_len vs3 ⟨(i : Int) + 1, c.take ((j : Int) + 1).toNat⟩, add_sc hv3 htk⟩, Le.mk rfl (tlb rfl rfl rfl (tle rfl (rfl) rfl (tle rfl (rfl) rfl (tle rfl (rfl) rfl (tle rfl (rfl) rfl (tle rfl (rfl) rfl tln)))))) (olk rfl (by exact bC) oln) (hU (a := [(0, .cell r)]) rfl)⟩
              · refine aW ?_
                repeat first | refine nS ?_ | refine nB ?_
                exact ⟨vs3, ⟨by omega, hv3⟩, Le.mk rfl (tlb rfl rfl rfl (tle rfl (rfl) rfl (tle rfl (rfl) rfl (tle rfl (rfl) rfl (tle rfl (rfl) rfl (tle rfl (rfl) rfl tln)))))) (olk rfl (by exact bC) oln) (hU (a := [(0, .cell r)]) rfl)⟩
            · rintro q ⟨hq1, hq2⟩
              all_goals refine aR ?_
              all_goals refine oC (oM rfl (Conv.of rfl) rfl) ?_
              all_goals refine oC (oP rfl rfl rfl (by omega)) ?_
              all_goals refine oC (oA rfl (Conv.of rfl) rfl) ?_
              all_goals refine oN ?_
              repeat first | refine nS ?_ | refine nB ?_
              exact ⟨n_ - 1, _, by omega, ⟨i + 1, q, nx r3 1, by omega, (by omega), hq2, (by have e9 : (nx r3 1).p = r3.p + 1 := rfl; omega), rfl⟩, Le.mk rfl (tlb rfl rfl rfl (tle rfl (rfl) rfl (tle rfl (rfl) rfl (tle rfl (rfl) rfl (tle rfl (rfl) rfl (tle rfl (rfl) rfl tln)))))) (olk rfl (by exact bC) oln) (hU (a := [(0, .cell r)]) rfl)⟩
          · refine aE ?_
            repeat refine ex_seq ?_
            refine eB ?_
            repeat first | refine nS ?_ | refine nB ?_
            exact ⟨(vs3, r3), ⟨by show vs3.length ≤ vs2.length + 4; omega, hv3, hr3.1, by show r3.p ≤ r2.p + 4; omega⟩, Le.mk rfl (tlb rfl rfl rfl (tle rfl (rfl) rfl (tle rfl (rfl) rfl (tle rfl (rfl) rfl (tle rfl (rfl) rfl tln))))) (olk rfl (by exact bC) oln) (hU (a := [(0, .cell r)]) rfl)⟩
        · rintro ⟨vs4, r4⟩ ⟨p1, p2, p3, p4⟩
          simp only at p1 p2 p3 p4 ⊢
          all_goals refine aR ?_
          all_goals refine oC (oM rfl (Conv.of rfl) rfl) ?_
          all_goals refine oC (oP rfl rfl rfl (by omega)) ?_
          all_goals refine oC (oA rfl (Conv.of rfl) rfl) ?_
          all_goals refine oN ?_
          repeat first | refine nS ?_ | refine nB ?_
          exact ⟨c.length - (j + 1), _, by omega, ⟨j + 1, vs4, r4, by omega, (by omega), p2, (by omega), rfl⟩, Le.mk rfl (tlb rfl rfl rfl (tle rfl (rfl) rfl (tle rfl (rfl) rfl (tle rfl (rfl) rfl (tle rfl (rfl) rfl tln))))) (olk rfl (by exact bC) oln) (hU (a := [(0, .cell r)]) rfl)⟩
      · refine aE ?_
        repeat refine ex_seq ?_
        refine eB ?_
        have hjc : j ≤ c.length := by omega
        repeat first | refine nS ?_ | refine nB ?_
        exact ⟨(vs2, r2), ⟨by show vs2.length ≤ vs.length + 80; omega, hv2, hr2.1, by show r2.p ≤ rr.p + 80; omega⟩, Le.mk rfl (tlb rfl rfl rfl (tle rfl (rfl) rfl (tle rfl (rfl) rfl (tle rfl (rfl) rfl tln)))) (olk rfl (by exact bC) oln) (hU (a := [(0, .cell r)]) rfl)⟩
    · rintro ⟨vs5, r5⟩ ⟨p1, p2, p3, p4⟩
      simp only at p1 p2 p3 p4 ⊢
      have hf5 : Far 401500 r5 := by unfold Far at hp ⊢; omega
      all_goals refine aS (aR ?_)
      all_goals refine oC (oM rfl (Conv.of rfl) rfl) ?_
      refine awpOps_callO [(0, .cell r5)] rfl fb147 (.cons rfl (Conv.of rfl) (.nil _)) (l71Two_ct r5 (hf5.weak (by omega))) (olsk rfl ols0) (kK bC k0) (argOb rfl rfl rfl argO0) rfl ?_
      rintro r_ h' ⟨a, b, r6, rfl, rfl, ha, hb, hr6, hr6'⟩
      refine ⟨[(0, .cell r6)], rfl, fun o ho => ?_, fun o ho h1 => ?_, kK bC k0, fun o ho => (by cases ho), ?_⟩
      · have : o = 0 := by simpa [keys, lk0] using ho
        subst this; rfl
      · by_cases e0 : o = 0
        · subst e0; cases h1
        · exact absurd (show keys [(0, Wt.Obj.cell r6)] o = true from ho) (by simp [keys, lk0, e0])
      all_goals refine oC (oM rfl (Conv.of rfl) rfl) ?_
      all_goals refine oC (op_ext rfl rfl rfl) ?_
      all_goals refine oC (op_ext rfl rfl rfl) ?_
      all_goals refine oC (oA rfl (Conv.of rfl) rfl) ?_
      all_goals refine oC (oA rfl (Conv.of rfl) rfl) ?_
      all_goals refine oN ?_
      have hf6 : Far 402000 r6 := by unfold Far at hf5 ⊢; omega
      have hf7 : Far 402001 (nx r6 1) := hf6.nx (by omega) (by omega)
      have hf8 : Far 402002 (nx (nx r6 1) 1) := hf7.nx (by omega) (by omega)
      have e1 : (nx r6 1).p = r6.p + 1 := rfl
      have e2 : (nx (nx (nx r6 1) 1) 3).p = r6.p + 5 := by simp only [nx]; omega
      refine awp_seq_ex (ι := List Itm × Rd) (fun i => mkSt 80 [(0, .box 0 (IsLens.whole Rd)), (3, .v (OList.mk vs5 true)), (4, .v c), (5, .v (k : Int)), (9, .v i.1)] [(0, .cell i.2)]) (fun i => i.1.length ≤ 20 ∧ r6.p ≤ i.2.p ∧ i.2.p ≤ r6.p + 5) ?_ ?_
      · all_goals refine aS (aR ?_)
        all_goals refine oC (oM rfl (Conv.of rfl) rfl) ?_
        all_goals refine oC (oE sl27 rfl rfl) ?_
        all_goals refine oC (op_gtr rfl rfl rfl) ?_
        all_goals refine oC (oM rfl (Conv.of rfl) rfl) ?_
        all_goals refine g_split (t := 51) rfl (fun h => ?_) (fun h => ?_)
        all_goals first | refine oC (gF rfl rfl rfl rfl rfl) ?_ | refine oC (gN rfl rfl rfl (oM rfl (Conv.of rfl) rfl)) ?_
        all_goals first | refine oC (gF rfl rfl rfl rfl rfl) ?_ | refine oC (gN rfl rfl rfl (oLO fb40 (.cons rfl (Conv.of rfl) (.cons rfl (Conv.of rfl) (.nil _))) (pick_ct r6 2 (by unfold Far at hf6; omega)) (olsk rfl ols0) (kK (by exact bC) k0) (kK (by exact bC) k0) rfl (argOb rfl rfl rfl (argOk' rfl rfl argO0)) (fun o ho => by cases ho) rfl)) ?_
        all_goals first | refine oC (gF rfl rfl rfl rfl rfl) ?_ | refine oC (gN rfl rfl rfl (op_eql rfl rfl rfl)) ?_
        all_goals refine oC (oQ rfl rfl rfl rfl) ?_
        all_goals refine oN ?_
        · refine aC rfl (fun h2 => ?_) (fun h2 => ?_)
          · have hpos : 0 < c.length := by have := of_decide_eq_true (by assumption : decide ((0 : Int) < (c.length : Int)) = true); omega
            have b7 := pk_bd hf7 (by omega) (c.length : Int)
            have b7' := b7.2 (by omega)
            have hx : c[((c.length : Int) - 1).toNat]? = some (c[((c.length : Int) - 1).toNat]'(by omega)) := List.getElem?_eq_getElem (by omega)
            generalize c[((c.length : Int) - 1).toNat]'(by omega) = x at hx
            all_goals refine dS ?_
            all_goals refine dC (oM rfl (Conv.of rfl) rfl) ?_
            all_goals refine dC (oM rfl (Conv.of rfl) rfl) ?_
            all_goals refine dC (oM rfl (Conv.of rfl) rfl) ?_
            all_goals refine dC (oE sl27 rfl rfl) ?_
            all_goals refine dC (oLO fb40 (.cons rfl (Conv.of rfl) (.cons rfl (Conv.of rfl) (.nil _))) (pick_ct (nx r6 1) (c.length : Int) (by unfold Far at hf7; omega)) (olsk rfl ols0) (kK (by exact bC) k0) (kK (by exact bC) k0) rfl (argOb rfl rfl rfl (argOk' rfl rfl argO0)) (fun o ho => by cases ho) rfl) ?_
            all_goals refine dC (op_slh sl27 rfl rfl rfl ⟨b7.1, by omega⟩) ?_
            all_goals refine dC (oL fb107 (.cons rfl (Conv.of rfl) (.nil _)) (l1Copy_ct _ (by rw [List.length_take]; omega)) (aK rfl rfl aK0) rfl rfl) ?_
            all_goals refine dC (oM rfl (Conv.of rfl) rfl) ?_
            all_goals refine dC (oM rfl (Conv.of rfl) rfl) ?_
            all_goals refine dC (oE sl27 rfl rfl) ?_
            all_goals refine dC (op_sub rfl rfl rfl (by omega)) ?_
            all_goals refine dC (op_ix sl27 rfl rfl rfl (by omega) hx) ?_
            all_goals refine dC (oFR f143_0 rfl rfl) ?_
            all_goals refine dC (oDR ty3 rfl rfl) ?_
            all_goals refine dC (op_addw rfl rfl rfl) ?_
            all_goals refine dC (oM rfl (Conv.of rfl) rfl) ?_
            all_goals refine dC (oLO fb39 (.cons rfl (Conv.of rfl) (.nil _)) (l71Pay_ct (nx (nx r6 1) 1) (hf8.weak (by omega))) (olsk rfl ols0) (kK (by exact bC) k0) (kK (by exact bC) k0) rfl (argOb rfl rfl rfl argO0) (fun o ho => by cases ho) rfl) ?_
            all_goals refine dC (op_build (.cons f143_0 rfl (Conv.of rfl) (.cons f143_1 rfl (Conv.of rfl) (.nil _))) z143 rfl pl143 rfl) ?_
            all_goals refine dC (op_bsl sl27 z143 (.cons rfl (Conv.of rfl) (.nil _)) rfl (by decide) rfl) ?_
            all_goals refine dC (op_app sl27 z143 ul27 rfl rfl rfl (by (simp; omega)) (by (simp; omega)) rfl rfl) ?_
            all_goals refine dC (op_asl rfl rfl rfl rfl) ?_
            all_goals refine dr_nil mixed rfl ?_
            repeat first | refine nS ?_ | refine nB ?_
            exact ⟨(c.take (pk (nx r6 1) (c.length : Int)).toNat ++ [⟨IntKind.i64.wrap (x.epoch + 1), payV (nx (nx r6 1) 1)⟩], nx (nx (nx r6 1) 1) 3), ⟨by show (c.take _ ++ _).length ≤ 20; simp; omega, by show r6.p ≤ (nx (nx (nx r6 1) 1) 3).p; omega, by show (nx (nx (nx r6 1) 1) 3).p ≤ r6.p + 5; omega⟩, Le.mk rfl (tlb rfl rfl rfl (tle rfl (rfl) rfl (tle rfl (rfl) rfl (tle rfl (rfl) rfl (tlc rfl (Conv.ol) rfl tln))))) (olk rfl (by exact bC) oln) (hU (a := [(0, .cell r)]) rfl)⟩
          · refine aW ?_
            repeat first | refine nS ?_ | refine nB ?_
            exact ⟨(b, nx r6 1), ⟨hb, by show r6.p ≤ (nx r6 1).p; omega, by show (nx r6 1).p ≤ r6.p + 5; omega⟩, Le.mk rfl (tlb rfl rfl rfl (tle rfl (rfl) rfl (tle rfl (rfl) rfl (tle rfl (rfl) rfl (tle rfl (rfl) rfl tln))))) (olk rfl (by exact bC) oln) (hU (a := [(0, .cell r)]) rfl)⟩
        · refine aC rfl (fun h2 => absurd h2 (by decide)) (fun h2 => ?_)
          refine aW ?_
          repeat first | refine nS ?_ | refine nB ?_
          exact ⟨(b, r6), ⟨hb, by show r6.p ≤ r6.p; omega, by show r6.p ≤ r6.p + 5; omega⟩, Le.mk rfl (tlb rfl rfl rfl (tle rfl (rfl) rfl (tle rfl (rfl) rfl (tle rfl (rfl) rfl (tle rfl (rfl) rfl tln))))) (olk rfl (by exact bC) oln) (hU (a := [(0, .cell r)]) rfl)⟩
      · rintro ⟨d, r7⟩ ⟨s1, s2, s3⟩
        simp only at s1 s2 s3 ⊢
        all_goals refine aS (aR ?_)
        all_goals refine oC (oM rfl (Conv.of rfl) rfl) ?_
        all_goals refine oC (oL fb104 (.cons rfl (Conv.of rfl) (.nil _)) (sChainOk_ct _) (aK rfl rfl aK0) rfl rfl) ?_
        all_goals refine oN ?_
        refine nS (awp_toB_ex (ι := List Itm) (fun i => mkSt 80 [(0, .box 0 (IsLens.whole Rd)), (3, .v (OList.mk vs5 true)), (4, .v i), (5, .v (k : Int))] [(0, .cell r7)]) (fun i => i.length ≤ 20) ?_ ?_)
        · refine aC rfl (fun h2 => ?_) (fun h2 => ?_)
          · all_goals refine aR ?_
            all_goals refine oC (oM rfl (Conv.of rfl) rfl) ?_
            all_goals refine oC (oA rfl (Conv.of rfl) rfl) ?_
            all_goals refine oN ?_
            repeat first | refine nS ?_ | refine nB ?_
            exact ⟨d, s1, Le.mk rfl (tlb rfl rfl rfl (tle rfl (rfl) rfl (tle rfl (rfl) rfl (tle rfl (rfl) rfl tln)))) (olk rfl (by exact bC) oln) (hU (a := [(0, .cell r)]) rfl)⟩
          · refine aW ?_
            repeat first | refine nS ?_ | refine nB ?_
            exact ⟨c, hc, Le.mk rfl (tlb rfl rfl rfl (tle rfl (rfl) rfl (tle rfl (rfl) rfl (tle rfl (rfl) rfl tln)))) (olk rfl (by exact bC) oln) (hU (a := [(0, .cell r)]) rfl)⟩
        · rintro f hf
          all_goals refine aR ?_
          all_goals refine oC (oM rfl (Conv.of rfl) rfl) ?_
          all_goals refine oC (op_sub rfl rfl rfl (by omega)) ?_
          all_goals refine oC (oA rfl (Conv.of rfl) rfl) ?_
          all_goals refine oN ?_
          repeat first | refine nS ?_ | refine nB ?_
          exact ⟨k - 1, _, by omega, ⟨k - 1, vs5, f, r7, by omega, (by omega), p2, hf, (by omega), rfl⟩, Le.mk rfl (tlb rfl rfl rfl (tle rfl (rfl) rfl (tle rfl (rfl) rfl (tle rfl (by (show AV.v _ = AV.v _; congr 1; omega)) rfl tln)))) (olk rfl (by exact bC) oln) (hU (a := [(0, .cell r)]) rfl)⟩
  · refine aE ?_
    repeat refine ex_seq ?_
    refine eB ?_
    all_goals refine aS (aR ?_)
    all_goals refine oC (op_mvl rfl rfl rfl rfl) ?_
    all_goals refine oC (op_asl rfl rfl rfl rfl) ?_
    all_goals refine oN ?_
    refine aT ?_
    repeat first | refine rS ?_ | refine rB ?_
    exact ⟨_, _, res1 (ol := [(0, .cell rr)]) (.v rfl Conv.ol) (fun o ho => by cases ho) (olk rfl bC oln) (hU rfl), vs, rr, rfl, rfl, by omega, hv, hr.1, by omega⟩
end Go.Proofs.YtmhmeppocbcmeaaGreat

/- The reference: a certificate is drawn. -/
set_option linter.unusedVariables false
set_option linter.unusedSimpArgs false
namespace Go.Proofs.YtmhmeppocbcmeaaGreat
open Go Go.Wt
theorem certS_bd {l : List Vote} {c : List Itm} {bs : List (List Int)} (h : certS l = some (c, bs)) (hl : ∀ v ∈ l, v.chain.length ≤ 20) : c.length ≤ 20 ∧ bs.length ≤ 3 := by
  unfold certS at h
  split at h
  · cases hf : certFind l with
    | none => rw [hf] at h; cases h
    | some d =>
      rw [hf] at h
      simp only [Option.map_some, Option.some.injEq, Prod.mk.injEq] at h
      obtain ⟨h1, h2⟩ := h
      have hd : d.length ≤ 20 := by
        rcases allOfS_at (List.mem_of_find?_eq_some hf) with e | ⟨v, q1, q2⟩
        · rw [e]; simp
        · rw [← q2]; exact hl v q1
      subst h1 h2
      exact ⟨by rw [List.length_take]; omega, by simp [certBy]⟩
  · cases h
set_option maxHeartbeats 8000000 in
theorem l72Cert_ct (r : Rd) (hp : Far 300000 r) : Ct Tryz.prog 42 [.box 0 (IsLens.whole Rd)] (obs [(0, .cell r)]) (fun r1 h1 => ∃ (c : Cert) (l : List Vote) (r' : Rd), r1 = .tup [.v c, .v l] ∧ h1 = obs [(0, .cell r')] ∧ c.chain.length ≤ 20 ∧ r.p ≤ r'.p ∧ r'.p ≤ r.p + 9000) := by
  refine Ct.intro Tryz.func42 rfl rfl ?_
  all_goals refine aS (aR ?_)
  all_goals refine oC (oX (o := 5) z30 rfl rfl) ?_
  all_goals refine oC (oA rfl (Conv.of rfl) rfl) ?_
  all_goals refine oN ?_
  all_goals refine aS (aR ?_)
  all_goals refine oC (oM rfl (Conv.of rfl) rfl) ?_
  refine awpOps_callO [(0, .cell r)] rfl fb96 (.cons rfl (Conv.of rfl) (.nil _)) (l71Votes_ct r (hp.weak (by omega))) (olsk rfl ols0) (kK bC k0) (argOb rfl rfl rfl argO0) rfl ?_
  rintro r_ h' ⟨l, r2, rfl, rfl, hl, hlc, hr2, hr2'⟩
  refine ⟨[(0, .cell r2)], rfl, fun o ho => ?_, fun o ho h1 => ?_, kK bC k0, fun o ho => (by cases ho), ?_⟩
  · have : o = 0 := by simpa [keys, lk0] using ho
    subst this; rfl
  · by_cases e0 : o = 0
    · subst e0; cases h1
    · exact absurd (show keys [(0, Wt.Obj.cell r2)] o = true from ho) (by simp [keys, lk0, e0])
  all_goals refine oC (oA rfl (Conv.of rfl) rfl) ?_
  all_goals refine oN ?_
  refine awp_seq_J (fun s => (s = mkSt 67 [(0, .box 0 (IsLens.whole Rd)), (2, .box 5 (IsLens.whole Cert)), (4, .v l), (5, .box 6 (IsLens.whole CertN)), (6, .v false)] [(0, .cell r2), (5, .cell Cert.zero), (6, .cell CertN.zero)]) ∨ (∃ (c : List Itm) (bs : List (List Int)), bs.length ≤ 3 ∧ c.length ≤ 20 ∧ s = mkSt 67 [(0, .box 0 (IsLens.whole Rd)), (2, .box 5 (IsLens.whole Cert)), (4, .v l), (5, .box 6 (IsLens.whole CertN)), (6, .v true)] [(0, .cell r2), (5, .cell Cert.zero), (6, .cell (CertN.mk c (.ref 2))), (2, .arr bs)])) ?_ ?_
  · cases hcs : certS l with
    | none =>
      all_goals refine aR ?_
      all_goals refine oC (oM rfl (Conv.of rfl) rfl) ?_
      all_goals refine oC (oL fb41 (.cons rfl (Conv.of rfl) (.nil _)) (sCertOfN_ct l hl hcs) (aK rfl rfl aK0) rfl rfl) ?_
      all_goals refine oC (oM rfl (Conv.of rfl) rfl) ?_
      all_goals refine oC (op_ext rfl rfl rfl) ?_
      all_goals refine oC (op_ext rfl rfl rfl) ?_
      all_goals refine oC (oX (o := 6) z30_CertN rfl rfl) ?_
      all_goals refine oC (op_st ty30_CertN rfl rfl (Conv.of rfl) rfl) ?_
      all_goals refine oC (oA rfl (Conv.of rfl) rfl) ?_
      all_goals refine oN ?_
      repeat first | refine nS ?_ | refine nB ?_
      exact ⟨_, .inl rfl, Le.mk rfl (tlb rfl rfl rfl (tlb rfl rfl rfl (tle rfl (rfl) rfl (tlb rfl rfl rfl (tle rfl (rfl) rfl tln))))) (olk rfl (by exact bC) (olk rfl (by exact bC) (olk rfl (by exact obOkS0) oln))) (hU (a := [(0, .cell r)]) rfl)⟩
    | some y =>
      obtain ⟨c, bs⟩ := y
      obtain ⟨hc, hb⟩ := certS_bd hcs hlc
      all_goals refine aR ?_
      all_goals refine oC (oM rfl (Conv.of rfl) rfl) ?_
      refine awpOps_callO [] rfl fb41 (.cons rfl (Conv.of rfl) (.nil _)) (sCertOfY_ct l hl c bs hcs) ols0 k0 (argOk' rfl rfl argO0) rfl ?_
      rintro r_ h' ⟨rfl, rfl⟩
      refine ⟨[(2, .arr bs)], rfl, (fun o ho => by cases ho), fun o ho _ => ?_, kK bA k0, fun o ho => ?_, ?_⟩
      · have : o = 2 := by simpa [keys, lk0] using ho
        subst this; rfl
      · have : o = 2 := by simpa using (show o ∈ [2] from ho)
        subst this; rfl
      all_goals refine oC (oM rfl (Conv.of rfl) rfl) ?_
      all_goals refine oC (op_ext rfl rfl rfl) ?_
      all_goals refine oC (op_ext rfl rfl rfl) ?_
      all_goals refine oC (oX (o := 6) z30_CertN rfl rfl) ?_
      all_goals refine oC (op_st ty30_CertN rfl rfl (Conv.of rfl) rfl) ?_
      all_goals refine oC (oA rfl (Conv.of rfl) rfl) ?_
      all_goals refine oN ?_
      repeat first | refine nS ?_ | refine nB ?_
      exact ⟨_, .inr ⟨c, bs, hb, hc, rfl⟩, Le.mk rfl (tlb rfl rfl rfl (tlb rfl rfl rfl (tle rfl (rfl) rfl (tlb rfl rfl rfl (tle rfl (rfl) rfl tln))))) (olk rfl (by exact bC) (olk rfl (by exact bC) (olk rfl (by exact obOkC rfl) (olk rfl (by exact bA) oln)))) (hU (a := [(0, .cell r)]) rfl)⟩
  · rintro s0 hs0
    refine aS (awp_seq_J (fun s => (fun (m : Nat) (s : St) => (∃ (k : Nat) (l : List Vote) (rr : Rd), m + k = 6 ∧ l.length ≤ 1000 ∧ (∀ v ∈ l, v.chain.length ≤ 20) ∧ (r.p ≤ rr.p ∧ rr.p ≤ r.p + 1000 * ((k : Int) + 1)) ∧ s = mkSt 67 [(0, .box 0 (IsLens.whole Rd)), (2, .box 5 (IsLens.whole Cert)), (4, .v l), (5, .box 6 (IsLens.whole CertN)), (6, .v false), (7, .v (k : Int))] [(0, .cell rr), (5, .cell Cert.zero), (6, .cell CertN.zero)]) ∨ (∃ (k : Nat) (l : List Vote) (c : List Itm) (bs : List (List Int)) (rr : Rd), k ≤ 6 ∧ bs.length ≤ 3 ∧ c.length ≤ 20 ∧ (r.p ≤ rr.p ∧ rr.p ≤ r.p + 7000) ∧ s = mkSt 67 [(0, .box 0 (IsLens.whole Rd)), (2, .box 5 (IsLens.whole Cert)), (4, .v l), (5, .box 6 (IsLens.whole CertN)), (6, .v true), (7, .v (k : Int))] [(0, .cell rr), (5, .cell Cert.zero), (6, .cell (CertN.mk c (.ref 2))), (2, .arr bs)])) 6 s) ?_ ?_)
    · rcases hs0 with rfl | ⟨c, bs, hb, hc, rfl⟩
      · all_goals refine aR ?_
        all_goals refine oC (oA rfl (Conv.of rfl) rfl) ?_
        all_goals refine oN ?_
        repeat first | refine nS ?_ | refine nB ?_
        exact ⟨_, .inl ⟨0, l, r2, rfl, hl, hlc, ⟨by omega, by omega⟩, rfl⟩, Le.mk rfl (tlb rfl rfl rfl (tlb rfl rfl rfl (tle rfl (rfl) rfl (tlb rfl rfl rfl (tle rfl (rfl) rfl (tle rfl (rfl) rfl tln)))))) (olk rfl (by exact bC) (olk rfl (by exact bC) (olk rfl (by exact obOkS0) oln))) (hU (a := [(0, .cell r)]) rfl)⟩
      · all_goals refine aR ?_
        all_goals refine oC (oA rfl (Conv.of rfl) rfl) ?_
        all_goals refine oN ?_
        repeat first | refine nS ?_ | refine nB ?_
        exact ⟨_, .inr ⟨0, l, c, bs, r2, by omega, hb, hc, ⟨by omega, by omega⟩, rfl⟩, Le.mk rfl (tlb rfl rfl rfl (tlb rfl rfl rfl (tle rfl (rfl) rfl (tlb rfl rfl rfl (tle rfl (rfl) rfl (tle rfl (rfl) rfl tln)))))) (olk rfl (by exact bC) (olk rfl (by exact bC) (olk rfl (by exact obOkC rfl) (olk rfl (by exact bA) oln)))) (hU (a := [(0, .cell r)]) rfl)⟩
    · rintro s1 hs1
      refine aB ?_
      refine awp_loop' (fun m s => (∃ (k : Nat) (l : List Vote) (rr : Rd), m + k = 6 ∧ l.length ≤ 1000 ∧ (∀ v ∈ l, v.chain.length ≤ 20) ∧ (r.p ≤ rr.p ∧ rr.p ≤ r.p + 1000 * ((k : Int) + 1)) ∧ s = mkSt 67 [(0, .box 0 (IsLens.whole Rd)), (2, .box 5 (IsLens.whole Cert)), (4, .v l), (5, .box 6 (IsLens.whole CertN)), (6, .v false), (7, .v (k : Int))] [(0, .cell rr), (5, .cell Cert.zero), (6, .cell CertN.zero)]) ∨ (∃ (k : Nat) (l : List Vote) (c : List Itm) (bs : List (List Int)) (rr : Rd), k ≤ 6 ∧ bs.length ≤ 3 ∧ c.length ≤ 20 ∧ (r.p ≤ rr.p ∧ rr.p ≤ r.p + 7000) ∧ s = mkSt 67 [(0, .box 0 (IsLens.whole Rd)), (2, .box 5 (IsLens.whole Cert)), (4, .v l), (5, .box 6 (IsLens.whole CertN)), (6, .v true), (7, .v (k : Int))] [(0, .cell rr), (5, .cell Cert.zero), (6, .cell (CertN.mk c (.ref 2))), (2, .arr bs)])) 6 hs1 Le.refl ?_
      clear hs1
      rintro m s (⟨k, l, rr, hk, hl0, hlc0, hr0, rfl⟩ | ⟨k, l, c, bs, rr, hk6, hb, hc, hr0, rfl⟩)
      · refine aS (aST (s' := mkSt 67 [(0, .box 0 (IsLens.whole Rd)), (2, .box 5 (IsLens.whole Cert)), (4, .v l), (5, .box 6 (IsLens.whole CertN)), (6, .v false), (7, .v (k : Int)), (20, .v (decide ((k : Int) < 6)))] [(0, .cell rr), (5, .cell Cert.zero), (6, .cell CertN.zero)]) ?_ ?_)
        · all_goals refine aR ?_
          all_goals refine oC (oM rfl (Conv.of rfl) rfl) ?_
          all_goals refine oC (oLt rfl rfl rfl) ?_
          all_goals refine oC (oM rfl (Conv.of rfl) rfl) ?_
          all_goals refine g_split (t := 17) rfl (fun h => ?_) (fun h => ?_)
          all_goals first | refine oC (gF rfl rfl rfl rfl rfl) ?_ | refine oC (gN rfl rfl rfl (oM rfl (Conv.of rfl) rfl)) ?_
          all_goals first | refine oC (gF rfl rfl rfl rfl rfl) ?_ | refine oC (gN rfl rfl rfl (op_not rfl rfl)) ?_
          all_goals refine oC (oQ rfl rfl rfl rfl) ?_
          all_goals refine oN ?_
          all_goals exact Le.mk rfl (tlb rfl rfl rfl (tlb rfl rfl rfl (tle rfl (rfl) rfl (tlb rfl rfl rfl (tle rfl (rfl) rfl (tle rfl (rfl) rfl (tle rfl (by (show AV.v _ = AV.v _; simp_all)) rfl tln))))))) (olk rfl (by exact bC) (olk rfl (by exact bC) (olk rfl (by exact obOkS0) oln))) (hU (a := [(0, .cell r)]) rfl)
        refine aC rfl (fun h => ?_) (fun h => ?_)
        · have hk6 : k < 6 := by have := of_decide_eq_true h; omega
          have hf3 : Far 310000 rr := by unfold Far at hp ⊢; omega
          refine aW ?_
          refine aS (aB ?_)
          all_goals refine aS (aR ?_)
          all_goals refine oC (oM rfl (Conv.of rfl) rfl) ?_
          refine awpOps_callO [(0, .cell rr)] rfl fb96 (.cons rfl (Conv.of rfl) (.nil _)) (l71Votes_ct rr (hf3.weak (by omega))) (olsk rfl ols0) (kK bC k0) (argOb rfl rfl rfl argO0) rfl ?_
          rintro r_ h' ⟨l, r3, rfl, rfl, hl, hlc, hr3, hr3'⟩
          refine ⟨[(0, .cell r3)], rfl, fun o ho => ?_, fun o ho h1 => ?_, kK bC k0, fun o ho => (by cases ho), ?_⟩
          · have : o = 0 := by simpa [keys, lk0] using ho
            subst this; rfl
          · by_cases e0 : o = 0
            · subst e0; cases h1
            · exact absurd (show keys [(0, Wt.Obj.cell r3)] o = true from ho) (by simp [keys, lk0, e0])
          all_goals refine oC (oA rfl (Conv.of rfl) rfl) ?_
          all_goals refine oN ?_
          cases hcs : certS l with
          | none =>
            all_goals refine aR ?_
            all_goals refine oC (oM rfl (Conv.of rfl) rfl) ?_
            all_goals refine oC (oL fb41 (.cons rfl (Conv.of rfl) (.nil _)) (sCertOfN_ct l hl hcs) (aK rfl rfl aK0) rfl rfl) ?_
            all_goals refine oC (oM rfl (Conv.of rfl) rfl) ?_
            all_goals refine oC (op_ext rfl rfl rfl) ?_
            all_goals refine oC (op_ext rfl rfl rfl) ?_
            all_goals refine oC (op_st ty30_CertN rfl rfl (Conv.of rfl) rfl) ?_
            all_goals refine oC (oA rfl (Conv.of rfl) rfl) ?_
            all_goals refine oN ?_
            all_goals refine aR ?_
            all_goals refine oC (oM rfl (Conv.of rfl) rfl) ?_
            all_goals refine oC (oP rfl rfl rfl (by omega)) ?_
            all_goals refine oC (oA rfl (Conv.of rfl) rfl) ?_
            all_goals refine oN ?_
            repeat first | refine nS ?_ | refine nB ?_
            exact ⟨m - 1, _, by omega, .inl ⟨k + 1, l, r3, by omega, hl, hlc, ⟨by omega, by omega⟩, rfl⟩, Le.mk rfl (tlb rfl rfl rfl (tlb rfl rfl rfl (tle rfl (rfl) rfl (tlb rfl rfl rfl (tle rfl (rfl) rfl (tle rfl (rfl) rfl tln)))))) (olk rfl (by exact bC) (olk rfl (by exact bC) (olk rfl (by exact obOkS0) oln))) (hU (a := [(0, .cell r)]) rfl)⟩
          | some y =>
            obtain ⟨c, bs⟩ := y
            obtain ⟨hc, hb⟩ := certS_bd hcs hlc
            all_goals refine aR ?_
            all_goals refine oC (oM rfl (Conv.of rfl) rfl) ?_
            refine awpOps_callO [] rfl fb41 (.cons rfl (Conv.of rfl) (.nil _)) (sCertOfY_ct l hl c bs hcs) ols0 k0 (argOk' rfl rfl argO0) rfl ?_
            rintro r_ h' ⟨rfl, rfl⟩
            refine ⟨[(2, .arr bs)], rfl, (fun o ho => by cases ho), fun o ho _ => ?_, kK bA k0, fun o ho => ?_, ?_⟩
            · have : o = 2 := by simpa [keys, lk0] using ho
              subst this; rfl
            · have : o = 2 := by simpa using (show o ∈ [2] from ho)
              subst this; rfl
            all_goals refine oC (oM rfl (Conv.of rfl) rfl) ?_
            all_goals refine oC (op_ext rfl rfl rfl) ?_
            all_goals refine oC (op_ext rfl rfl rfl) ?_
            all_goals refine oC (op_st ty30_CertN rfl rfl (Conv.of rfl) rfl) ?_
            all_goals refine oC (oA rfl (Conv.of rfl) rfl) ?_
            all_goals refine oN ?_
            all_goals refine aR ?_
            all_goals refine oC (oM rfl (Conv.of rfl) rfl) ?_
            all_goals refine oC (oP rfl rfl rfl (by omega)) ?_
            all_goals refine oC (oA rfl (Conv.of rfl) rfl) ?_
            all_goals refine oN ?_
            repeat first | refine nS ?_ | refine nB ?_
            exact ⟨m - 1, _, by omega, .inr ⟨k + 1, l, c, bs, r3, by omega, hb, hc, ⟨by omega, by omega⟩, rfl⟩, Le.mk rfl (tlb rfl rfl rfl (tlb rfl rfl rfl (tle rfl (rfl) rfl (tlb rfl rfl rfl (tle rfl (rfl) rfl (tle rfl (rfl) rfl tln)))))) (olk rfl (by exact bC) (olk rfl (by exact bC) (olk rfl (by exact obOkC rfl) (olk rfl (by exact bA) oln)))) (hU (a := [(0, .cell r)]) rfl)⟩
        · refine aE ?_
          repeat refine ex_seq ?_
          refine eB ?_
          have hk7 : k ≤ 6 := by omega
          have hf3 : Far 310000 rr := by unfold Far at hp ⊢; omega
          have hf4 : Far 310001 (nx rr 1) := hf3.nx (by omega) (by omega)
          have e1 : (nx rr 1).p = rr.p + 1 := rfl
          have g1 := off_bd (hf4.weak (by omega))
          have l1 := off_len hf4 (by omega)
          have k1 := off_ct (nx rr 1) (hf4.weak (by omega))
          generalize (offF (nx rr 1)).1 = c1 at l1 k1
          generalize (offF (nx rr 1)).2 = r1 at g1 k1
          all_goals refine aS (aS (aR ?_))
          all_goals refine oC (oM rfl (Conv.of rfl) rfl) ?_
          all_goals refine oC (oLO fb40 (.cons rfl (Conv.of rfl) (.cons rfl (Conv.of rfl) (.nil _))) (pick_ct rr 10 (by unfold Far at hf3; omega)) (olsk rfl ols0) (kK (by exact bC) k0) (kK (by exact bC) k0) rfl (argOb rfl rfl rfl (argOk' rfl rfl argO0)) (fun o ho => by cases ho) rfl) ?_
          all_goals refine oN ?_
          refine nS (awp_to_ex (ι := Cert × Rd) (fun i => mkSt 67 [(5, .box 6 (IsLens.whole Cert)), (0, .box 0 (IsLens.whole Rd)), (2, .box 5 (IsLens.whole Cert)), (4, .v l)] [(6, .cell i.1), (0, .cell i.2), (5, .cell Cert.zero)]) (fun i => i.1.chain.length ≤ 20 ∧ rr.p ≤ i.2.p ∧ i.2.p ≤ rr.p + 50) ?_ ?_)
          · refine aB ?_
            all_goals refine aS (aR ?_)
            all_goals refine oC (op_eql rfl rfl rfl) ?_
            all_goals refine oC (oA rfl (Conv.of rfl) rfl) ?_
            all_goals refine oN ?_
            refine aC rfl (fun q0 => ?_) (fun q0 => ?_)
            · all_goals refine aS (aR ?_)
              all_goals refine oC (oF f30_1_CertN rfl rfl) ?_
              all_goals refine oC (oD ty28_NRef rfl rfl rfl) ?_
              all_goals refine oC (op_lenN sl28 rfl rfl) ?_
              all_goals refine oC (op_gtr rfl rfl rfl) ?_
              all_goals refine oN ?_
              refine aC rfl (fun q => absurd q (by decide)) (fun q => ?_)
              refine aW ?_
              repeat first | refine nS ?_ | refine nB ?_
              exact ⟨(Cert.mk [] [], nx rr 1), ⟨(by show List.length _ ≤ 20; simp; try omega), (by show rr.p ≤ Rd.p (nx rr 1); omega), (by show Rd.p (nx rr 1) ≤ rr.p + 50; omega)⟩, Le.trans (b := mkSt 67 [(5, .box 6 (IsLens.whole CertN)), (0, .box 0 (IsLens.whole Rd)), (2, .box 5 (IsLens.whole Cert)), (4, .v l)] [(6, .cell (CertN.mk [] .nil)), (0, .cell (nx rr 1)), (5, .cell Cert.zero)]) (Le.mk rfl (tlb rfl rfl rfl (tlb rfl rfl rfl (tlb rfl rfl rfl (tle rfl (rfl) rfl tln)))) (olk rfl (by exact obOkS0) (olk rfl (by exact bC) (olk rfl (by exact bC) oln))) (hU (a := [(0, .cell r)]) rfl)) (Le.recell fun _ _ _ _ hh => certN_nil hh)⟩
            · all_goals refine aS (aR ?_)
              all_goals refine oC (op_eql rfl rfl rfl) ?_
              all_goals refine oC (oA rfl (Conv.of rfl) rfl) ?_
              all_goals refine oN ?_
              refine aC rfl (fun q1 => ?_) (fun q1 => ?_)
              · all_goals refine aR ?_
                all_goals refine oC (oM rfl (Conv.of rfl) rfl) ?_
                all_goals refine oC (oLO fb97 (.cons rfl (Conv.of rfl) (.nil _)) (k1) (olsk rfl ols0) (kK (by exact bC) k0) (kK (by exact bC) k0) rfl (argOb rfl rfl rfl argO0) (fun o ho => by cases ho) rfl) ?_
                all_goals refine oC (oF f30_0_CertN rfl rfl) ?_
                all_goals refine oC (op_st ty27 rfl rfl (Conv.of rfl) rfl) ?_
                all_goals refine oN ?_
                repeat first | refine nS ?_ | refine nB ?_
                exact ⟨(Cert.mk c1 [], r1), ⟨(by show List.length _ ≤ 20; simp; try omega), (by show rr.p ≤ Rd.p (r1); omega), (by show Rd.p (r1) ≤ rr.p + 50; omega)⟩, Le.trans (b := mkSt 67 [(5, .box 6 (IsLens.whole CertN)), (0, .box 0 (IsLens.whole Rd)), (2, .box 5 (IsLens.whole Cert)), (4, .v l)] [(6, .cell (CertN.mk c1 .nil)), (0, .cell r1), (5, .cell Cert.zero)]) (Le.mk rfl (tlb rfl rfl rfl (tlb rfl rfl rfl (tlb rfl rfl rfl (tle rfl (rfl) rfl tln)))) (olk rfl (by exact obOkS0) (olk rfl (by exact bC) (olk rfl (by exact bC) oln))) (hU (a := [(0, .cell r)]) rfl)) (Le.recell fun _ _ _ _ hh => certN_nil hh)⟩
              · all_goals refine aS (aR ?_)
                all_goals refine oC (op_eql rfl rfl rfl) ?_
                all_goals refine oC (oA rfl (Conv.of rfl) rfl) ?_
                all_goals refine oN ?_
                refine aC rfl (fun q2 => ?_) (fun q2 => ?_)
                · all_goals refine aR ?_
                  all_goals refine oC (oF f30_1_CertN rfl rfl) ?_
                  all_goals refine oC (oD ty28_NRef rfl rfl rfl) ?_
                  all_goals refine oC (op_bsl sl93 z3 (.cons rfl (Conv.of rfl) (.cons rfl (Conv.of rfl) (.cons rfl (Conv.of rfl) (.nil _)))) rfl (by decide) rfl) ?_
                  all_goals refine oC (op_bsl sl28 z93 (.cons rfl (Conv.ol) (.nil _)) rfl (by decide) rfl) ?_
                  all_goals refine oC (op_apN (o' := 2) sl28 z93 ul28 rfl rfl rfl (by simp) (by (simp; try omega)) (by (simp; try omega)) rfl) ?_
                  all_goals refine oC (oF f30_1_CertN rfl rfl) ?_
                  all_goals refine oC (op_st ty28_NRef rfl rfl (Conv.of rfl) rfl) ?_
                  all_goals refine oN ?_
                  repeat first | refine nS ?_ | refine nB ?_
                  exact ⟨(Cert.mk [] [[1, 2, 3]], nx rr 1), ⟨(by show List.length _ ≤ 20; simp; try omega), (by show rr.p ≤ Rd.p (nx rr 1); omega), (by show Rd.p (nx rr 1) ≤ rr.p + 50; omega)⟩, Le.trans (b := mkSt 67 [(5, .box 6 (IsLens.whole CertN)), (0, .box 0 (IsLens.whole Rd)), (2, .box 5 (IsLens.whole Cert)), (4, .v l)] [(6, .cell (CertN.mk [] (.ref 2))), (2, .arr ([[1, 2, 3]] : List (List Int))), (0, .cell (nx rr 1)), (5, .cell Cert.zero)]) (Le.mk rfl (tlb rfl rfl rfl (tlb rfl rfl rfl (tlb rfl rfl rfl (tle rfl (rfl) rfl tln)))) (olk rfl (by exact obOkC rfl) (olk rfl (by exact bA) (olk rfl (by exact bC) (olk rfl (by exact bC) oln)))) (hU (a := [(0, .cell r)]) rfl)) (Le.frzCt (t := 5) (c := 6) (o := 2) (by show _ ≤ 4611686018427387904; first | omega | (simp; try omega)) rfl (hU rfl) rfl rfl rfl (oblk bC (oblk bC obl0)))⟩
                · all_goals refine aS (aR ?_)
                  all_goals refine oC (op_eql rfl rfl rfl) ?_
                  all_goals refine oC (oA rfl (Conv.of rfl) rfl) ?_
                  all_goals refine oN ?_
                  refine aC rfl (fun q3 => ?_) (fun q3 => ?_)
                  · all_goals refine aS (aR ?_)
                    all_goals refine oC (oF f30_1_CertN rfl rfl) ?_
                    all_goals refine oC (oD ty28_NRef rfl rfl rfl) ?_
                    all_goals refine oC (op_lenN sl28 rfl rfl) ?_
                    all_goals refine oC (op_gtr rfl rfl rfl) ?_
                    all_goals refine oN ?_
                    refine aC rfl (fun q => absurd q (by decide)) (fun q => ?_)
                    refine aW ?_
                    repeat first | refine nS ?_ | refine nB ?_
                    exact ⟨(Cert.mk [] [], nx rr 1), ⟨(by show List.length _ ≤ 20; simp; try omega), (by show rr.p ≤ Rd.p (nx rr 1); omega), (by show Rd.p (nx rr 1) ≤ rr.p + 50; omega)⟩, Le.trans (b := mkSt 67 [(5, .box 6 (IsLens.whole CertN)), (0, .box 0 (IsLens.whole Rd)), (2, .box 5 (IsLens.whole Cert)), (4, .v l)] [(6, .cell (CertN.mk [] .nil)), (0, .cell (nx rr 1)), (5, .cell Cert.zero)]) (Le.mk rfl (tlb rfl rfl rfl (tlb rfl rfl rfl (tlb rfl rfl rfl (tle rfl (rfl) rfl tln)))) (olk rfl (by exact obOkS0) (olk rfl (by exact bC) (olk rfl (by exact bC) oln))) (hU (a := [(0, .cell r)]) rfl)) (Le.recell fun _ _ _ _ hh => certN_nil hh)⟩
                  · refine aW ?_
                    repeat first | refine nS ?_ | refine nB ?_
                    exact ⟨(Cert.mk [] [], nx rr 1), ⟨(by show List.length _ ≤ 20; simp; try omega), (by show rr.p ≤ Rd.p (nx rr 1); omega), (by show Rd.p (nx rr 1) ≤ rr.p + 50; omega)⟩, Le.trans (b := mkSt 67 [(5, .box 6 (IsLens.whole CertN)), (0, .box 0 (IsLens.whole Rd)), (2, .box 5 (IsLens.whole Cert)), (4, .v l)] [(6, .cell (CertN.mk [] .nil)), (0, .cell (nx rr 1)), (5, .cell Cert.zero)]) (Le.mk rfl (tlb rfl rfl rfl (tlb rfl rfl rfl (tlb rfl rfl rfl (tle rfl (rfl) rfl tln)))) (olk rfl (by exact obOkS0) (olk rfl (by exact bC) (olk rfl (by exact bC) oln))) (hU (a := [(0, .cell r)]) rfl)) (Le.recell fun _ _ _ _ hh => certN_nil hh)⟩
          · rintro ⟨C, R⟩ ⟨z1, z2, z3⟩
            simp only at z1 z2 z3 ⊢
            all_goals refine aS (aR ?_)
            all_goals refine oC (oD ty30_Cert rfl rfl rfl) ?_
            all_goals refine oC (oM rfl (Conv.of rfl) rfl) ?_
            all_goals refine oC (op_st ty30_Cert rfl rfl (Conv.of rfl) rfl) ?_
            all_goals refine oC (oA rfl (Conv.of rfl) rfl) ?_
            all_goals refine oN ?_
            refine aT ?_
            repeat first | refine rS ?_ | refine rB ?_
            exact ⟨_, _, resN (ol := [(0, .cell R)]) (.cons (.rc ty30_Cert rfl rfl) (.cons (.v rfl (Conv.of rfl)) .nil)) rfl (fun o ho => absurd (show o ∈ ([] : List Nat) from ho) (by simp)) (olk rfl bC oln) (hU rfl), C, l, R, rfl, rfl, z1, by omega, by omega⟩
      · refine aS (aST (s' := mkSt 67 [(0, .box 0 (IsLens.whole Rd)), (2, .box 5 (IsLens.whole Cert)), (4, .v l), (5, .box 6 (IsLens.whole CertN)), (6, .v true), (7, .v (k : Int)), (20, .v false)] [(0, .cell rr), (5, .cell Cert.zero), (6, .cell (CertN.mk c (.ref 2))), (2, .arr bs)]) ?_ ?_)
        · all_goals refine aR ?_
          all_goals refine oC (oM rfl (Conv.of rfl) rfl) ?_
          all_goals refine oC (oLt rfl rfl rfl) ?_
          all_goals refine oC (oM rfl (Conv.of rfl) rfl) ?_
          all_goals refine g_split (t := 17) rfl (fun h => ?_) (fun h => ?_)
          all_goals first | refine oC (gF rfl rfl rfl rfl rfl) ?_ | refine oC (gN rfl rfl rfl (oM rfl (Conv.of rfl) rfl)) ?_
          all_goals first | refine oC (gF rfl rfl rfl rfl rfl) ?_ | refine oC (gN rfl rfl rfl (op_not rfl rfl)) ?_
          all_goals refine oC (oQ rfl rfl rfl rfl) ?_
          all_goals refine oN ?_
          all_goals exact Le.mk rfl (tlb rfl rfl rfl (tlb rfl rfl rfl (tle rfl (rfl) rfl (tlb rfl rfl rfl (tle rfl (rfl) rfl (tle rfl (rfl) rfl (tle rfl (by rfl) rfl tln))))))) (olk rfl (by exact bC) (olk rfl (by exact bC) (olk rfl (by exact obOkC rfl) (olk rfl (by exact bA) oln)))) (hU (a := [(0, .cell r)]) rfl)
        refine aC rfl (fun h => absurd h (by decide)) (fun h => ?_)
        refine aE ?_
        repeat refine ex_seq ?_
        refine eB ?_
        have hf3 : Far 310000 rr := by unfold Far at hp ⊢; omega
        have hf4 : Far 310001 (nx rr 1) := hf3.nx (by omega) (by omega)
        have e1 : (nx rr 1).p = rr.p + 1 := rfl
        have g1 := off_bd (hf4.weak (by omega))
        have l1 := off_len hf4 (by omega)
        have k1 := off_ct (nx rr 1) (hf4.weak (by omega))
        generalize (offF (nx rr 1)).1 = c1 at l1 k1
        generalize (offF (nx rr 1)).2 = r1 at g1 k1
        all_goals refine aS (aS (aR ?_))
        all_goals refine oC (oM rfl (Conv.of rfl) rfl) ?_
        all_goals refine oC (oLO fb40 (.cons rfl (Conv.of rfl) (.cons rfl (Conv.of rfl) (.nil _))) (pick_ct rr 10 (by unfold Far at hf3; omega)) (olsk rfl ols0) (kK (by exact bC) k0) (kK (by exact bC) k0) rfl (argOb rfl rfl rfl (argOk' rfl rfl argO0)) (fun o ho => by cases ho) rfl) ?_
        all_goals refine oN ?_
        refine nS (awp_to_ex (ι := Cert × Rd) (fun i => mkSt 67 [(5, .box 6 (IsLens.whole Cert)), (0, .box 0 (IsLens.whole Rd)), (2, .box 5 (IsLens.whole Cert)), (4, .v l)] [(6, .cell i.1), (0, .cell i.2), (5, .cell Cert.zero)]) (fun i => i.1.chain.length ≤ 20 ∧ rr.p ≤ i.2.p ∧ i.2.p ≤ rr.p + 50) ?_ ?_)
        · refine aB ?_
          all_goals refine aS (aR ?_)
          all_goals refine oC (op_eql rfl rfl rfl) ?_
          all_goals refine oC (oA rfl (Conv.of rfl) rfl) ?_
          all_goals refine oN ?_
          refine aC rfl (fun q0 => ?_) (fun q0 => ?_)
          · all_goals refine aS (aR ?_)
            all_goals refine oC (oF f30_1_CertN rfl rfl) ?_
            all_goals refine oC (oD ty28_NRef rfl rfl rfl) ?_
            all_goals refine oC (oEA sl28 rfl rfl rfl) ?_
            all_goals refine oC (op_gtr rfl rfl rfl) ?_
            all_goals refine oN ?_
            refine aC rfl (fun q => ?_) (fun q => ?_)
            · have hpos : 0 < bs.length := by have := of_decide_eq_true q; omega
              have hx0 : bs[(0 : Int).toNat]? = some (bs[0]'hpos) := List.getElem?_eq_getElem hpos
              all_goals refine aR ?_
              all_goals refine oC (oF f30_1_CertN rfl rfl) ?_
              all_goals refine oC (oD ty28_NRef rfl rfl rfl) ?_
              all_goals refine oC (op_bsl sl93 z3 (.cons rfl (Conv.of rfl) (.cons rfl (Conv.of rfl) (.nil _))) rfl (by decide) rfl) ?_
              all_goals refine oC (op_ixA sl28 rfl rfl rfl rfl ⟨by omega, by omega⟩) ?_
              all_goals refine oC (op_ste ty93 rfl rfl (Conv.ol) rfl hx0) ?_
              all_goals refine oN ?_
              repeat first | refine nS ?_ | refine nB ?_
              exact ⟨(Cert.mk c (bs.set (0 : Int).toNat [1, 2]), nx rr 1), ⟨(by show List.length _ ≤ 20; simp; try omega), (by show rr.p ≤ Rd.p (nx rr 1); omega), (by show Rd.p (nx rr 1) ≤ rr.p + 50; omega)⟩, Le.trans (b := mkSt 67 [(5, .box 6 (IsLens.whole CertN)), (0, .box 0 (IsLens.whole Rd)), (2, .box 5 (IsLens.whole Cert)), (4, .v l)] [(6, .cell (CertN.mk c (.ref 2))), (2, .arr (bs.set (0 : Int).toNat [1, 2])), (0, .cell (nx rr 1)), (5, .cell Cert.zero)]) (Le.mk rfl (tlb rfl rfl rfl (tlb rfl rfl rfl (tlb rfl rfl rfl (tle rfl (rfl) rfl tln)))) (olk rfl (by exact obOkC rfl) (olk rfl (by exact bA) (olk rfl (by exact bC) (olk rfl (by exact bC) oln)))) (hU (a := [(0, .cell r)]) rfl)) (Le.frzCt (t := 5) (c := 6) (o := 2) (by show _ ≤ 4611686018427387904; first | omega | (simp; try omega)) rfl (hU rfl) rfl rfl rfl (oblk bC (oblk bC obl0)))⟩
            · refine aW ?_
              repeat first | refine nS ?_ | refine nB ?_
              exact ⟨(Cert.mk c bs, nx rr 1), ⟨(by show List.length _ ≤ 20; simp; try omega), (by show rr.p ≤ Rd.p (nx rr 1); omega), (by show Rd.p (nx rr 1) ≤ rr.p + 50; omega)⟩, Le.trans (b := mkSt 67 [(5, .box 6 (IsLens.whole CertN)), (0, .box 0 (IsLens.whole Rd)), (2, .box 5 (IsLens.whole Cert)), (4, .v l)] [(6, .cell (CertN.mk c (.ref 2))), (2, .arr bs), (0, .cell (nx rr 1)), (5, .cell Cert.zero)]) (Le.mk rfl (tlb rfl rfl rfl (tlb rfl rfl rfl (tlb rfl rfl rfl (tle rfl (rfl) rfl tln)))) (olk rfl (by exact obOkC rfl) (olk rfl (by exact bA) (olk rfl (by exact bC) (olk rfl (by exact bC) oln)))) (hU (a := [(0, .cell r)]) rfl)) (Le.frzCt (t := 5) (c := 6) (o := 2) (by show _ ≤ 4611686018427387904; first | omega | (simp; try omega)) rfl (hU rfl) rfl rfl rfl (oblk bC (oblk bC obl0)))⟩
          · all_goals refine aS (aR ?_)
            all_goals refine oC (op_eql rfl rfl rfl) ?_
            all_goals refine oC (oA rfl (Conv.of rfl) rfl) ?_
            all_goals refine oN ?_
            refine aC rfl (fun q1 => ?_) (fun q1 => ?_)
            · all_goals refine aR ?_
              all_goals refine oC (oM rfl (Conv.of rfl) rfl) ?_
              all_goals refine oC (oLO fb97 (.cons rfl (Conv.of rfl) (.nil _)) (k1) (olsk rfl ols0) (kK (by exact bC) k0) (kK (by exact bC) k0) rfl (argOb rfl rfl rfl argO0) (fun o ho => by cases ho) rfl) ?_
              all_goals refine oC (oF f30_0_CertN rfl rfl) ?_
              all_goals refine oC (op_st ty27 rfl rfl (Conv.of rfl) rfl) ?_
              all_goals refine oN ?_
              repeat first | refine nS ?_ | refine nB ?_
              exact ⟨(Cert.mk c1 bs, r1), ⟨(by show List.length _ ≤ 20; simp; try omega), (by show rr.p ≤ Rd.p (r1); omega), (by show Rd.p (r1) ≤ rr.p + 50; omega)⟩, Le.trans (b := mkSt 67 [(5, .box 6 (IsLens.whole CertN)), (0, .box 0 (IsLens.whole Rd)), (2, .box 5 (IsLens.whole Cert)), (4, .v l)] [(6, .cell (CertN.mk c1 (.ref 2))), (2, .arr bs), (0, .cell r1), (5, .cell Cert.zero)]) (Le.mk rfl (tlb rfl rfl rfl (tlb rfl rfl rfl (tlb rfl rfl rfl (tle rfl (rfl) rfl tln)))) (olk rfl (by exact obOkC rfl) (olk rfl (by exact bA) (olk rfl (by exact bC) (olk rfl (by exact bC) oln)))) (hU (a := [(0, .cell r)]) rfl)) (Le.frzCt (t := 5) (c := 6) (o := 2) (by show _ ≤ 4611686018427387904; first | omega | (simp; try omega)) rfl (hU rfl) rfl rfl rfl (oblk bC (oblk bC obl0)))⟩
            · all_goals refine aS (aR ?_)
              all_goals refine oC (op_eql rfl rfl rfl) ?_
              all_goals refine oC (oA rfl (Conv.of rfl) rfl) ?_
              all_goals refine oN ?_
              refine aC rfl (fun q2 => ?_) (fun q2 => ?_)
              · all_goals refine aR ?_
                all_goals refine oC (oF f30_1_CertN rfl rfl) ?_
                all_goals refine oC (oD ty28_NRef rfl rfl rfl) ?_
                all_goals refine oC (op_bsl sl93 z3 (.cons rfl (Conv.of rfl) (.cons rfl (Conv.of rfl) (.cons rfl (Conv.of rfl) (.nil _)))) rfl (by decide) rfl) ?_
                all_goals refine oC (op_bsl sl28 z93 (.cons rfl (Conv.ol) (.nil _)) rfl (by decide) rfl) ?_
                all_goals refine oC (op_apA (o' := 3) sl28 z93 ul28 rfl rfl rfl rfl (by simp) (by (simp; try omega)) (by (simp; try omega)) rfl) ?_
                all_goals refine oC (oF f30_1_CertN rfl rfl) ?_
                all_goals refine oC (op_st ty28_NRef rfl rfl (Conv.of rfl) rfl) ?_
                all_goals refine oN ?_
                repeat first | refine nS ?_ | refine nB ?_
                exact ⟨(Cert.mk c (bs ++ [[1, 2, 3]]), nx rr 1), ⟨(by show List.length _ ≤ 20; simp; try omega), (by show rr.p ≤ Rd.p (nx rr 1); omega), (by show Rd.p (nx rr 1) ≤ rr.p + 50; omega)⟩, Le.trans (b := mkSt 67 [(5, .box 6 (IsLens.whole CertN)), (0, .box 0 (IsLens.whole Rd)), (2, .box 5 (IsLens.whole Cert)), (4, .v l)] [(6, .cell (CertN.mk c (.ref 3))), (3, .arr (bs ++ [[1, 2, 3]])), (0, .cell (nx rr 1)), (5, .cell Cert.zero)]) (Le.mk rfl (tlb rfl rfl rfl (tlb rfl rfl rfl (tlb rfl rfl rfl (tle rfl (rfl) rfl tln)))) (olk rfl (by exact obOkC rfl) (olk rfl (by exact bA) (olk rfl (by exact bC) (olk rfl (by exact bC) oln)))) (hU (a := [(0, .cell r)]) rfl)) (Le.frzCt (t := 5) (c := 6) (o := 3) (by show _ ≤ 4611686018427387904; first | omega | (simp; try omega)) rfl (hU rfl) rfl rfl rfl (oblk bC (oblk bC obl0)))⟩
              · all_goals refine aS (aR ?_)
                all_goals refine oC (op_eql rfl rfl rfl) ?_
                all_goals refine oC (oA rfl (Conv.of rfl) rfl) ?_
                all_goals refine oN ?_
                refine aC rfl (fun q3 => ?_) (fun q3 => ?_)
                · all_goals refine aS (aR ?_)
                  all_goals refine oC (oF f30_1_CertN rfl rfl) ?_
                  all_goals refine oC (oD ty28_NRef rfl rfl rfl) ?_
                  all_goals refine oC (oEA sl28 rfl rfl rfl) ?_
                  all_goals refine oC (op_gtr rfl rfl rfl) ?_
                  all_goals refine oN ?_
                  refine aC rfl (fun q => ?_) (fun q => ?_)
                  · have hpos : 1 < bs.length := by have := of_decide_eq_true q; omega
                    have hx0 : bs[(1 : Int).toNat]? = some (bs[1]'hpos) := List.getElem?_eq_getElem hpos
                    all_goals refine aR ?_
                    all_goals refine oC (oF f30_1_CertN rfl rfl) ?_
                    all_goals refine oC (oD ty28_NRef rfl rfl rfl) ?_
                    all_goals refine oC (op_bsl sl93 z3 (.cons rfl (Conv.of rfl) (.cons rfl (Conv.of rfl) (.cons rfl (Conv.of rfl) (.cons rfl (Conv.of rfl) (.nil _))))) rfl (by decide) rfl) ?_
                    all_goals refine oC (op_ixA sl28 rfl rfl rfl rfl ⟨by omega, by omega⟩) ?_
                    all_goals refine oC (op_ste ty93 rfl rfl (Conv.ol) rfl hx0) ?_
                    all_goals refine oN ?_
                    repeat first | refine nS ?_ | refine nB ?_
                    exact ⟨(Cert.mk c (bs.set (1 : Int).toNat [1, 3, 3, 4]), nx rr 1), ⟨(by show List.length _ ≤ 20; simp; try omega), (by show rr.p ≤ Rd.p (nx rr 1); omega), (by show Rd.p (nx rr 1) ≤ rr.p + 50; omega)⟩, Le.trans (b := mkSt 67 [(5, .box 6 (IsLens.whole CertN)), (0, .box 0 (IsLens.whole Rd)), (2, .box 5 (IsLens.whole Cert)), (4, .v l)] [(6, .cell (CertN.mk c (.ref 2))), (2, .arr (bs.set (1 : Int).toNat [1, 3, 3, 4])), (0, .cell (nx rr 1)), (5, .cell Cert.zero)]) (Le.mk rfl (tlb rfl rfl rfl (tlb rfl rfl rfl (tlb rfl rfl rfl (tle rfl (rfl) rfl tln)))) (olk rfl (by exact obOkC rfl) (olk rfl (by exact bA) (olk rfl (by exact bC) (olk rfl (by exact bC) oln)))) (hU (a := [(0, .cell r)]) rfl)) (Le.frzCt (t := 5) (c := 6) (o := 2) (by show _ ≤ 4611686018427387904; first | omega | (simp; try omega)) rfl (hU rfl) rfl rfl rfl (oblk bC (oblk bC obl0)))⟩
                  · refine aW ?_
                    repeat first | refine nS ?_ | refine nB ?_
                    exact ⟨(Cert.mk c bs, nx rr 1), ⟨(by show List.length _ ≤ 20; simp; try omega), (by show rr.p ≤ Rd.p (nx rr 1); omega), (by show Rd.p (nx rr 1) ≤ rr.p + 50; omega)⟩, Le.trans (b := mkSt 67 [(5, .box 6 (IsLens.whole CertN)), (0, .box 0 (IsLens.whole Rd)), (2, .box 5 (IsLens.whole Cert)), (4, .v l)] [(6, .cell (CertN.mk c (.ref 2))), (2, .arr bs), (0, .cell (nx rr 1)), (5, .cell Cert.zero)]) (Le.mk rfl (tlb rfl rfl rfl (tlb rfl rfl rfl (tlb rfl rfl rfl (tle rfl (rfl) rfl tln)))) (olk rfl (by exact obOkC rfl) (olk rfl (by exact bA) (olk rfl (by exact bC) (olk rfl (by exact bC) oln)))) (hU (a := [(0, .cell r)]) rfl)) (Le.frzCt (t := 5) (c := 6) (o := 2) (by show _ ≤ 4611686018427387904; first | omega | (simp; try omega)) rfl (hU rfl) rfl rfl rfl (oblk bC (oblk bC obl0)))⟩
                · refine aW ?_
                  repeat first | refine nS ?_ | refine nB ?_
                  exact ⟨(Cert.mk c bs, nx rr 1), ⟨(by show List.length _ ≤ 20; simp; try omega), (by show rr.p ≤ Rd.p (nx rr 1); omega), (by show Rd.p (nx rr 1) ≤ rr.p + 50; omega)⟩, Le.trans (b := mkSt 67 [(5, .box 6 (IsLens.whole CertN)), (0, .box 0 (IsLens.whole Rd)), (2, .box 5 (IsLens.whole Cert)), (4, .v l)] [(6, .cell (CertN.mk c (.ref 2))), (2, .arr bs), (0, .cell (nx rr 1)), (5, .cell Cert.zero)]) (Le.mk rfl (tlb rfl rfl rfl (tlb rfl rfl rfl (tlb rfl rfl rfl (tle rfl (rfl) rfl tln)))) (olk rfl (by exact obOkC rfl) (olk rfl (by exact bA) (olk rfl (by exact bC) (olk rfl (by exact bC) oln)))) (hU (a := [(0, .cell r)]) rfl)) (Le.frzCt (t := 5) (c := 6) (o := 2) (by show _ ≤ 4611686018427387904; first | omega | (simp; try omega)) rfl (hU rfl) rfl rfl rfl (oblk bC (oblk bC obl0)))⟩
        · rintro ⟨C, R⟩ ⟨z1, z2, z3⟩
          simp only at z1 z2 z3 ⊢
          all_goals refine aS (aR ?_)
          all_goals refine oC (oD ty30_Cert rfl rfl rfl) ?_
          all_goals refine oC (oM rfl (Conv.of rfl) rfl) ?_
          all_goals refine oC (op_st ty30_Cert rfl rfl (Conv.of rfl) rfl) ?_
          all_goals refine oC (oA rfl (Conv.of rfl) rfl) ?_
          all_goals refine oN ?_
          refine aT ?_
          repeat first | refine rS ?_ | refine rB ?_
          exact ⟨_, _, resN (ol := [(0, .cell R)]) (.cons (.rc ty30_Cert rfl rfl) (.cons (.v rfl (Conv.of rfl)) .nil)) rfl (fun o ho => absurd (show o ∈ ([] : List Nat) from ho) (by simp)) (olk rfl bC oln) (hU rfl), C, l, R, rfl, rfl, z1, by omega, by omega⟩
end Go.Proofs.YtmhmeppocbcmeaaGreat

/- The reference: a world and a certificate are drawn. -/
set_option linter.unusedVariables false
set_option linter.unusedSimpArgs false
namespace Go.Proofs.YtmhmeppocbcmeaaGreat
open Go Go.Wt
theorem certS_bd2 {l : List Vote} {c : List Itm} {bs : List (List Int)} (h : certS l = some (c, bs)) : c.length ≤ 20 ∧ bs.length ≤ 3 := by
  have ho : votesOk l = true := by
    cases q : votesOk l with
    | true => rfl
    | false => unfold certS at h; rw [q] at h; simp at h
  exact certS_bd h fun v hv => by
    have := chainOk_len (voteOk_chain (votesOk_mem ho v hv))
    omega
theorem calmR_four {w : Wrld} {ps : List Pay} (h : 0 < (worldCalmR w ps).nodes.length) : (worldCalmR w ps).nodes.length = 4 ∧ ∀ n ∈ (worldCalmR w ps).nodes, n.seen.length ≤ 1000 := by
  unfold worldCalmR at h ⊢
  split
  · rename_i hh
    simp only [Bool.and_eq_true] at hh
    have hf := calmFold_ok ps (worldOk_iff.1 hh.1).fx
    refine ⟨hf.four, fun n hn => ?_⟩
    have := (nodeOk_seen (hf.nodes n hn)).2
    omega
  · rename_i hh
    rw [if_neg hh] at h
    exact absurd h (by decide)
theorem freeN {st : St} {bs : List (List Int)} (h : isFree (st.ob 2) = true) : ∀ o, keys [(2, Wt.Obj.arr bs)] o = true → o ∈ ([(2, Wt.Obj.arr bs)] : List (Nat × Wt.Obj)).map (·.1) ∧ st.ob o = .free := fun o ho => by
  have : o = 2 := by simpa [keys, lk0] using ho
  subst this
  exact ⟨by simp, by revert h; generalize st.ob 2 = x; cases x <;> simp [isFree]⟩
set_option maxHeartbeats 8000000 in
theorem drawShown_ct (code : List UInt8) : Ct Tryz.prog 7 [.v code] noObj (fun r1 h1 => ∃ (w : Wrld) (c : Cert), r1 = .tup [.v w, .v c] ∧ h1 = noObj ∧ c.chain.length ≤ 20) := by
  refine Ct.intro Tryz.func7 rfl rfl ?_
  all_goals refine aS (aR ?_)
  all_goals refine oC (oX (o := 5) z26 rfl rfl) ?_
  all_goals refine oC (oX (o := 6) z30 rfl rfl) ?_
  all_goals refine oN ?_
  all_goals refine aS (aR ?_)
  all_goals refine oC (oM rfl (Conv.of rfl) rfl) ?_
  refine awpOps_callO [] rfl fb37 (.cons rfl (Conv.of rfl) (.nil _)) (l6Open_ct code) ols0 k0 (argOk' rfl rfl argO0) rfl ?_
  rintro r_ h' ⟨rfl, rfl⟩
  refine ⟨[(0, .cell (Rd.mk (code.take 2000) 0))], rfl, (fun o ho => by cases ho), fun o ho _ => ?_, kK bC k0, fun o ho => ?_, ?_⟩
  · have : o = 0 := by simpa [keys, lk0] using ho
    subst this; rfl
  · have : o = 0 := by simpa using (show o ∈ [0] from ho)
    subst this; rfl
  have hf0 : Far 1000 (Rd.mk (code.take 2000) 0) := ⟨by simp, by simp⟩
  generalize Rd.mk (code.take 2000) 0 = r0 at hf0 ⊢
  all_goals refine oC (oA rfl (Conv.of rfl) rfl) ?_
  all_goals refine oN ?_
  all_goals refine aS (aR ?_)
  all_goals refine oC (oM rfl (Conv.of rfl) rfl) ?_
  refine awpOps_callE (ι := Wrld × Rd) [(0, .cell r0)] (fun i => .v i.1) (fun i => [(0, .cell i.2)]) (fun i => (i.1.nodes.length = 4 → Lw i.1) ∧ Far 21000 i.2) rfl fb38 (.cons rfl (Conv.of rfl) (.nil _)) (l72World_ct r0 hf0) (fun r h' ⟨w, r', e1, e2, e3, e4⟩ => ⟨(w, r'), e1, e2, e3, e4⟩) (olsk rfl ols0) (kK bC k0) (argOb rfl rfl rfl argO0) rfl (fun i => rfl) (fun i => kK bC k0) (fun i o ho => by cases ho) ?_
  rintro ⟨w, r1⟩ ⟨hlw, hf1⟩
  simp only at hlw hf1 ⊢
  all_goals refine oC (oX (o := 7) z26 rfl rfl) ?_
  all_goals refine oC (op_st ty26 rfl rfl (Conv.of rfl) rfl) ?_
  all_goals refine oN ?_
  all_goals refine aS (aS (aR ?_))
  all_goals refine oC (oF f26_1 rfl rfl) ?_
  all_goals refine oC (oD ty23 rfl rfl rfl) ?_
  all_goals refine oC (oE sl23 rfl rfl) ?_
  all_goals refine oC (op_neq rfl rfl rfl) ?_
  all_goals refine oN ?_
  refine aC rfl (fun h => ?_) (fun h => ?_)
  · all_goals refine aS (aR ?_)
    all_goals refine oC (oD ty26 rfl rfl rfl) ?_
    all_goals refine oC (op_build (.nil _) z30 rfl pl30 rfl) ?_
    all_goals refine oC (op_st ty26 rfl rfl (Conv.of rfl) rfl) ?_
    all_goals refine oC (op_st ty30 rfl rfl (Conv.of rfl) rfl) ?_
    all_goals refine oN ?_
    refine aT ?_
    repeat first | refine rS ?_ | refine rB ?_
    exact ⟨_, _, resN (ol := []) (.cons (.rc ty26 rfl rfl) (.cons (.rc ty30 rfl rfl) .nil)) rfl (fun o ho => absurd (show o ∈ ([] : List Nat) from ho) (by simp)) oln noS, _, Cert.zero, rfl, rfl, by decide⟩
  have h4 : w.nodes.length = 4 := by simp at h; omega
  have hl := hlw h4
  refine aW ?_
  have p1 : Far 21003 (nx r1 3) := hf1.nx (by omega) (by omega)
  have p2 : Far 21006 (nx (nx r1 3) 3) := p1.nx (by omega) (by omega)
  have p3 : Far 21009 (nx (nx (nx r1 3) 3) 3) := p2.nx (by omega) (by omega)
  have p4 : Far 21012 (nx (nx (nx (nx r1 3) 3) 3) 3) := p3.nx (by omega) (by omega)
  have p5 : Far 21013 (nx (nx (nx (nx (nx r1 3) 3) 3) 3) 1) := p4.nx (by omega) (by omega)
  all_goals refine aS (dS ?_)
  all_goals refine dC (oD ty26 rfl rfl rfl) ?_
  all_goals refine dC (oM rfl (Conv.of rfl) rfl) ?_
  all_goals refine dC (oLO fb39 (.cons rfl (Conv.of rfl) (.nil _)) (l71Pay_ct r1 (hf1.weak (by omega))) (olsk rfl ols0) (kK (by exact bC) k0) (kK (by exact bC) k0) rfl (argOb rfl rfl rfl argO0) (fun o ho => by cases ho) rfl) ?_
  all_goals refine dC (oM rfl (Conv.of rfl) rfl) ?_
  all_goals refine dC (oLO fb39 (.cons rfl (Conv.of rfl) (.nil _)) (l71Pay_ct (nx r1 3) (p1.weak (by omega))) (olsk rfl ols0) (kK (by exact bC) k0) (kK (by exact bC) k0) rfl (argOb rfl rfl rfl argO0) (fun o ho => by cases ho) rfl) ?_
  all_goals refine dC (oM rfl (Conv.of rfl) rfl) ?_
  all_goals refine dC (oLO fb39 (.cons rfl (Conv.of rfl) (.nil _)) (l71Pay_ct (nx (nx r1 3) 3) (p2.weak (by omega))) (olsk rfl ols0) (kK (by exact bC) k0) (kK (by exact bC) k0) rfl (argOb rfl rfl rfl argO0) (fun o ho => by cases ho) rfl) ?_
  all_goals refine dC (oM rfl (Conv.of rfl) rfl) ?_
  all_goals refine dC (oLO fb39 (.cons rfl (Conv.of rfl) (.nil _)) (l71Pay_ct (nx (nx (nx r1 3) 3) 3) (p3.weak (by omega))) (olsk rfl ols0) (kK (by exact bC) k0) (kK (by exact bC) k0) rfl (argOb rfl rfl rfl argO0) (fun o ho => by cases ho) rfl) ?_
  all_goals refine dC (op_bsl sl61 z75 (.cons rfl (Conv.of rfl) (.cons rfl (Conv.of rfl) (.cons rfl (Conv.of rfl) (.cons rfl (Conv.of rfl) (.nil _))))) rfl (by decide) rfl) ?_
  all_goals refine dC (oL fb25 (.cons rfl (Conv.of rfl) (.cons rfl (Conv.ol) (.nil _))) (sCalm_ct _ _) (aK rfl rfl (aK rfl rfl aK0)) rfl rfl) ?_
  all_goals refine dC (oX (o := 8) z26 rfl rfl) ?_
  all_goals refine dC (op_st ty26 rfl rfl (Conv.of rfl) rfl) ?_
  all_goals refine dr_nil mixed rfl ?_
  generalize hps : ([payV r1, payV (nx r1 3), payV (nx (nx r1 3) 3), payV (nx (nx (nx r1 3) 3) 3)] : List Pay) = ps
  have hcr := calmR_four (w := w) (ps := ps)
  refine awp_seq_ex (ι := Wrld × Rd) (fun i => mkSt 77 [(2, .box 5 (IsLens.whole Wrld)), (3, .box 6 (IsLens.whole Cert)), (4, .box 0 (IsLens.whole Rd)), (5, .box 7 (IsLens.whole Wrld))] [(0, .cell i.2), (5, .cell Wrld.zero), (6, .cell Cert.zero), (7, .cell i.1)]) (fun i => i.1.nodes.length = 4 ∧ (∀ n ∈ i.1.nodes, n.seen.length ≤ 1000) ∧ Far 22000 i.2) ?_ ?_
  · all_goals refine aS (aR ?_)
    all_goals refine oC (oF f26_1 rfl rfl) ?_
    all_goals refine oC (oD ty23 rfl rfl rfl) ?_
    all_goals refine oC (oE sl23 rfl rfl) ?_
    all_goals refine oC (op_gtr rfl rfl rfl) ?_
    all_goals refine oC (oM rfl (Conv.of rfl) rfl) ?_
    all_goals refine g_split (t := 34) rfl (fun h => ?_) (fun h => ?_)
    all_goals first | refine oC (gF rfl rfl rfl rfl rfl) ?_ | refine oC (gN rfl rfl rfl (oM rfl (Conv.of rfl) rfl)) ?_
    all_goals first | refine oC (gF rfl rfl rfl rfl rfl) ?_ | refine oC (gN rfl rfl rfl (oLO fb40 (.cons rfl (Conv.of rfl) (.cons rfl (Conv.of rfl) (.nil _))) (pick_ct (nx (nx (nx (nx r1 3) 3) 3) 3) 3 (by unfold Far at p4; omega)) (olsk rfl ols0) (kK (by exact bC) k0) (kK (by exact bC) k0) rfl (argOb rfl rfl rfl (argOk' rfl rfl argO0)) (fun o ho => by cases ho) rfl)) ?_
    all_goals first | refine oC (gF rfl rfl rfl rfl rfl) ?_ | refine oC (gN rfl rfl rfl (op_gtr rfl rfl rfl)) ?_
    all_goals refine oC (oQ rfl rfl rfl rfl) ?_
    all_goals refine oN ?_
    · refine aC rfl (fun h2 => ?_) (fun h2 => ?_)
      · have hpos : 0 < (worldCalmR w ps).nodes.length := by have := of_decide_eq_true (by assumption : decide ((0 : Int) < ((worldCalmR w ps).nodes.length : Int)) = true); omega
        all_goals refine aR ?_
        all_goals refine oC (oD ty26 rfl rfl rfl) ?_
        all_goals refine oC (op_st ty26 rfl rfl (Conv.of rfl) rfl) ?_
        all_goals refine oN ?_
        repeat first | refine nS ?_ | refine nB ?_
        exact ⟨(worldCalmR w ps, _), ⟨(hcr hpos).1, (hcr hpos).2, p5.weak (by omega)⟩, Le.mk rfl (tlb rfl rfl rfl (tlb rfl rfl rfl (tlb rfl rfl rfl (tlb rfl rfl rfl tln)))) (olk rfl (by exact bC) (olk rfl (by exact bC) (olk rfl (by exact bC) (olk rfl (by exact bC) oln)))) noS⟩
      · refine aW ?_
        repeat first | refine nS ?_ | refine nB ?_
        exact ⟨(w, _), ⟨h4, fun n hn => (by have := (hl.sl n hn).1; omega), p5.weak (by omega)⟩, Le.mk rfl (tlb rfl rfl rfl (tlb rfl rfl rfl (tlb rfl rfl rfl (tlb rfl rfl rfl tln)))) (olk rfl (by exact bC) (olk rfl (by exact bC) (olk rfl (by exact bC) (olk rfl (by exact bC) oln)))) noS⟩
    · refine aC rfl (fun h2 => absurd h2 (by decide)) (fun h2 => ?_)
      refine aW ?_
      repeat first | refine nS ?_ | refine nB ?_
      exact ⟨(w, _), ⟨h4, fun n hn => (by have := (hl.sl n hn).1; omega), p4.weak (by omega)⟩, Le.mk rfl (tlb rfl rfl rfl (tlb rfl rfl rfl (tlb rfl rfl rfl (tlb rfl rfl rfl tln)))) (olk rfl (by exact bC) (olk rfl (by exact bC) (olk rfl (by exact bC) (olk rfl (by exact bC) oln)))) noS⟩
  rintro ⟨x, r2⟩ ⟨hx4, hxs, hf2⟩
  simp only at hx4 hxs hf2 ⊢
  have hf4 : Far 22001 (nx r2 1) := hf2.nx (by omega) (by omega)
  have hf5 : Far 22002 (nx (nx r2 1) 1) := hf4.nx (by omega) (by omega)
  have b2 := pk_bd hf2 (by omega) 4
  have b2' := b2.2 (by omega)
  have hn : x.nodes[(pk r2 4).toNat]? = some (x.nodes[(pk r2 4).toNat]'(by omega)) := List.getElem?_eq_getElem (by omega)
  have hsn := hxs _ (List.mem_of_getElem? hn)
  generalize x.nodes[(pk r2 4).toNat]'(by omega) = n at hn hsn
  cases hcs : certS n.seen with
  | none =>
    all_goals refine aS (dS ?_)
    all_goals refine dC (oF f26_1 rfl rfl) ?_
    all_goals refine dC (oD ty23 rfl rfl rfl) ?_
    all_goals refine dC (oM rfl (Conv.of rfl) rfl) ?_
    all_goals refine dC (oLO fb40 (.cons rfl (Conv.of rfl) (.cons rfl (Conv.of rfl) (.nil _))) (pick_ct r2 4 (by unfold Far at hf2; omega)) (olsk rfl ols0) (kK (by exact bC) k0) (kK (by exact bC) k0) rfl (argOb rfl rfl rfl (argOk' rfl rfl argO0)) (fun o ho => by cases ho) rfl) ?_
    all_goals refine dC (op_ix sl23 rfl rfl rfl b2.1 hn) ?_
    all_goals refine dC (oFR f90_3 rfl rfl) ?_
    all_goals refine dC (oDR ty24 rfl rfl) ?_
    all_goals refine dC (oL fb41 (.cons rfl (Conv.of rfl) (.nil _)) (sCertOfN_ct n.seen hsn hcs) (aK rfl rfl aK0) rfl rfl) ?_
    all_goals refine dC (oM rfl (Conv.of rfl) rfl) ?_
    all_goals refine dC (op_ext rfl rfl rfl) ?_
    all_goals refine dC (op_ext rfl rfl rfl) ?_
    all_goals refine dC (oX (o := 9) z30_CertN rfl rfl) ?_
    all_goals refine dC (op_st ty30_CertN rfl rfl (Conv.of rfl) rfl) ?_
    all_goals refine dC (oA rfl (Conv.of rfl) rfl) ?_
    all_goals refine dr_nil mixed rfl ?_
    all_goals refine aS (aS (aR ?_))
    all_goals refine oC (oM rfl (Conv.of rfl) rfl) ?_
    all_goals refine oC (oLO fb40 (.cons rfl (Conv.of rfl) (.cons rfl (Conv.of rfl) (.nil _))) (pick_ct (nx r2 1) 8 (by unfold Far at hf4; omega)) (olsk rfl ols0) (kK (by exact bC) k0) (kK (by exact bC) k0) rfl (argOb rfl rfl rfl (argOk' rfl rfl argO0)) (fun o ho => by cases ho) rfl) ?_
    all_goals refine oN ?_
    refine nS (awp_to_ex (ι := Cert) (fun i => mkSt 77 [(7, .box 9 (IsLens.whole Cert)), (2, .box 5 (IsLens.whole Wrld)), (3, .box 6 (IsLens.whole Cert)), (5, .box 7 (IsLens.whole Wrld))] [(9, .cell i), (5, .cell Wrld.zero), (6, .cell Cert.zero), (7, .cell x)]) (fun i => i.chain.length ≤ 20) ?_ ?_)
    · refine aB ?_
      all_goals refine aS (aR ?_)
      all_goals refine oC (op_eql rfl rfl rfl) ?_
      all_goals refine oC (oA rfl (Conv.of rfl) rfl) ?_
      all_goals refine oN ?_
      refine aC rfl (fun q0 => ?_) (fun q0 => ?_)
      · all_goals refine aR ?_
        all_goals refine oC (oM rfl (Conv.of rfl) rfl) ?_
        refine awpOps_callO [(0, .cell (nx (nx r2 1) 1))] rfl fb42 (.cons rfl (Conv.of rfl) (.nil _)) (l72Cert_ct (nx (nx r2 1) 1) (hf5.weak (by omega))) (olsk rfl ols0) (kK bC k0) (argOb rfl rfl rfl argO0) rfl ?_
        rintro r_ h' ⟨C, vl, r6, rfl, rfl, hC, hr6, hr6'⟩
        refine ⟨[(0, .cell r6)], rfl, fun o ho => ?_, fun o ho h1 => ?_, kK bC k0, fun o ho => (by cases ho), ?_⟩
        · have : o = 0 := by simpa [keys, lk0] using ho
          subst this; rfl
        · by_cases e0 : o = 0
          · subst e0; cases h1
          · exact absurd (show keys [(0, Wt.Obj.cell r6)] o = true from ho) (by simp [keys, lk0, e0])
        all_goals refine oC (oM rfl (Conv.of rfl) rfl) ?_
        all_goals refine oC (op_ext rfl rfl rfl) ?_
        all_goals refine oC (op_ext rfl rfl rfl) ?_
        all_goals refine oC (op_stT (α := CertN) (o := 9) ty30_Cert rfl rfl rfl rfl) ?_
        all_goals refine oN ?_
        repeat first | refine nS ?_ | refine nB ?_
        exact ⟨C, hC, Le.mk rfl (tlb rfl rfl rfl (tlb rfl rfl rfl (tlb rfl rfl rfl (tlb rfl rfl rfl tln)))) (olk rfl (by exact bC) (olk rfl (by exact bC) (olk rfl (by exact bC) (olk rfl (by exact bC) oln)))) noS⟩
      · all_goals refine aS (aR ?_)
        all_goals refine oC (op_eql rfl rfl rfl) ?_
        all_goals refine oC (oA rfl (Conv.of rfl) rfl) ?_
        all_goals refine oN ?_
        refine aC rfl (fun q1 => ?_) (fun q1 => ?_)
        · all_goals refine aS (aR ?_)
          all_goals refine oC (oF f30_1_CertN rfl rfl) ?_
          all_goals refine oC (oD ty28_NRef rfl rfl rfl) ?_
          all_goals refine oC (op_lenN sl28 rfl rfl) ?_
          all_goals refine oC (op_gtr rfl rfl rfl) ?_
          all_goals refine oN ?_
          refine aC rfl (fun q => absurd q (by decide)) (fun q => ?_)
          refine aW ?_
          repeat first | refine nS ?_ | refine nB ?_
          exact ⟨Cert.mk [] [], (by show List.length _ ≤ 20; simp; try omega), Le.trans (b := mkSt 77 [(7, .box 9 (IsLens.whole CertN)), (2, .box 5 (IsLens.whole Wrld)), (3, .box 6 (IsLens.whole Cert)), (5, .box 7 (IsLens.whole Wrld))] [(9, .cell (CertN.mk [] .nil)), (5, .cell Wrld.zero), (6, .cell Cert.zero), (7, .cell x)]) (Le.mk rfl (tlb rfl rfl rfl (tlb rfl rfl rfl (tlb rfl rfl rfl (tlb rfl rfl rfl tln)))) (olk rfl (by exact obOkS0) (olk rfl (by exact bC) (olk rfl (by exact bC) (olk rfl (by exact bC) oln)))) noS) (Le.recell fun _ _ _ _ hh => certN_nil hh)⟩
        · refine aW ?_
          repeat first | refine nS ?_ | refine nB ?_
          exact ⟨Cert.mk [] [], (by show List.length _ ≤ 20; simp; try omega), Le.trans (b := mkSt 77 [(7, .box 9 (IsLens.whole CertN)), (2, .box 5 (IsLens.whole Wrld)), (3, .box 6 (IsLens.whole Cert)), (5, .box 7 (IsLens.whole Wrld))] [(9, .cell (CertN.mk [] .nil)), (5, .cell Wrld.zero), (6, .cell Cert.zero), (7, .cell x)]) (Le.mk rfl (tlb rfl rfl rfl (tlb rfl rfl rfl (tlb rfl rfl rfl (tlb rfl rfl rfl tln)))) (olk rfl (by exact obOkS0) (olk rfl (by exact bC) (olk rfl (by exact bC) (olk rfl (by exact bC) oln)))) noS) (Le.recell fun _ _ _ _ hh => certN_nil hh)⟩
    · rintro C hC
      all_goals refine aS (dS ?_)
      all_goals refine dC (oD ty26 rfl rfl rfl) ?_
      all_goals refine dC (oD ty30_Cert rfl rfl rfl) ?_
      all_goals refine dC (op_st ty26 rfl rfl (Conv.of rfl) rfl) ?_
      all_goals refine dC (op_st ty30_Cert rfl rfl (Conv.of rfl) rfl) ?_
      all_goals refine dr_nil mixed rfl ?_
      refine aT ?_
      repeat first | refine rS ?_ | refine rB ?_
      exact ⟨_, _, resN (ol := []) (.cons (.rc ty26 rfl rfl) (.cons (.rc ty30_Cert rfl rfl) .nil)) rfl (fun o ho => absurd (show o ∈ ([] : List Nat) from ho) (by simp)) oln noS, _, _, rfl, rfl, hC⟩
  | some y =>
    obtain ⟨c, bs⟩ := y
    obtain ⟨hc, hb⟩ := certS_bd2 hcs
    all_goals refine aS (dS ?_)
    all_goals refine dC (oF f26_1 rfl rfl) ?_
    all_goals refine dC (oD ty23 rfl rfl rfl) ?_
    all_goals refine dC (oM rfl (Conv.of rfl) rfl) ?_
    all_goals refine dC (oLO fb40 (.cons rfl (Conv.of rfl) (.cons rfl (Conv.of rfl) (.nil _))) (pick_ct r2 4 (by unfold Far at hf2; omega)) (olsk rfl ols0) (kK (by exact bC) k0) (kK (by exact bC) k0) rfl (argOb rfl rfl rfl (argOk' rfl rfl argO0)) (fun o ho => by cases ho) rfl) ?_
    all_goals refine dC (op_ix sl23 rfl rfl rfl b2.1 hn) ?_
    all_goals refine dC (oFR f90_3 rfl rfl) ?_
    all_goals refine dC (oDR ty24 rfl rfl) ?_
    all_goals refine dC (op_callN (ol' := [(2, .arr bs)]) fb41 (.cons rfl (Conv.of rfl) (.nil _)) (sCertOfY_ct n.seen hsn c bs hcs) (aK rfl rfl aK0) (freeN rfl) (kK bA k0) (fun o ho => (by have h2 : o = 2 := (by simpa using (show o ∈ [2] from ho)); (subst h2; rfl))) rfl) ?_
    all_goals refine dC (oM rfl (Conv.of rfl) rfl) ?_
    all_goals refine dC (op_ext rfl rfl rfl) ?_
    all_goals refine dC (op_ext rfl rfl rfl) ?_
    all_goals refine dC (oX (o := 9) z30_CertN rfl rfl) ?_
    all_goals refine dC (op_st ty30_CertN rfl rfl (Conv.of rfl) rfl) ?_
    all_goals refine dC (oA rfl (Conv.of rfl) rfl) ?_
    all_goals refine dr_nil mixed rfl ?_
    all_goals refine aS (aS (aR ?_))
    all_goals refine oC (oM rfl (Conv.of rfl) rfl) ?_
    all_goals refine oC (oLO fb40 (.cons rfl (Conv.of rfl) (.cons rfl (Conv.of rfl) (.nil _))) (pick_ct (nx r2 1) 8 (by unfold Far at hf4; omega)) (olsk rfl ols0) (kK (by exact bC) k0) (kK (by exact bC) k0) rfl (argOb rfl rfl rfl (argOk' rfl rfl argO0)) (fun o ho => by cases ho) rfl) ?_
    all_goals refine oN ?_
    refine nS (awp_to_ex (ι := Cert) (fun i => mkSt 77 [(7, .box 9 (IsLens.whole Cert)), (2, .box 5 (IsLens.whole Wrld)), (3, .box 6 (IsLens.whole Cert)), (5, .box 7 (IsLens.whole Wrld))] [(9, .cell i), (5, .cell Wrld.zero), (6, .cell Cert.zero), (7, .cell x)]) (fun i => i.chain.length ≤ 20) ?_ ?_)
    · refine aB ?_
      all_goals refine aS (aR ?_)
      all_goals refine oC (op_eql rfl rfl rfl) ?_
      all_goals refine oC (oA rfl (Conv.of rfl) rfl) ?_
      all_goals refine oN ?_
      refine aC rfl (fun q0 => ?_) (fun q0 => ?_)
      · all_goals refine aR ?_
        all_goals refine oC (oM rfl (Conv.of rfl) rfl) ?_
        refine awpOps_callO [(0, .cell (nx (nx r2 1) 1))] rfl fb42 (.cons rfl (Conv.of rfl) (.nil _)) (l72Cert_ct (nx (nx r2 1) 1) (hf5.weak (by omega))) (olsk rfl ols0) (kK bC k0) (argOb rfl rfl rfl argO0) rfl ?_
        rintro r_ h' ⟨C, vl, r6, rfl, rfl, hC, hr6, hr6'⟩
        refine ⟨[(0, .cell r6)], rfl, fun o ho => ?_, fun o ho h1 => ?_, kK bC k0, fun o ho => (by cases ho), ?_⟩
        · have : o = 0 := by simpa [keys, lk0] using ho
          subst this; rfl
        · by_cases e0 : o = 0
          · subst e0; cases h1
          · exact absurd (show keys [(0, Wt.Obj.cell r6)] o = true from ho) (by simp [keys, lk0, e0])
        all_goals refine oC (oM rfl (Conv.of rfl) rfl) ?_
        all_goals refine oC (op_ext rfl rfl rfl) ?_
        all_goals refine oC (op_ext rfl rfl rfl) ?_
        all_goals refine oC (op_stT (α := CertN) (o := 9) ty30_Cert rfl rfl rfl rfl) ?_
        all_goals refine oN ?_
        repeat first | refine nS ?_ | refine nB ?_
        exact ⟨C, hC, Le.mk rfl (tlb rfl rfl rfl (tlb rfl rfl rfl (tlb rfl rfl rfl (tlb rfl rfl rfl tln)))) (olk rfl (by exact bC) (olk rfl (by exact bC) (olk rfl (by exact bC) (olk rfl (by exact bC) oln)))) noS⟩
      · all_goals refine aS (aR ?_)
        all_goals refine oC (op_eql rfl rfl rfl) ?_
        all_goals refine oC (oA rfl (Conv.of rfl) rfl) ?_
        all_goals refine oN ?_
        refine aC rfl (fun q1 => ?_) (fun q1 => ?_)
        · all_goals refine aS (aR ?_)
          all_goals refine oC (oF f30_1_CertN rfl rfl) ?_
          all_goals refine oC (oD ty28_NRef rfl rfl rfl) ?_
          all_goals refine oC (oEA sl28 rfl rfl rfl) ?_
          all_goals refine oC (op_gtr rfl rfl rfl) ?_
          all_goals refine oN ?_
          refine aC rfl (fun q => ?_) (fun q => ?_)
          · have hpos : 0 < bs.length := by have := of_decide_eq_true q; omega
            have b6 := pk_bd hf5 (by omega) (bs.length : Int)
            have b6' := b6.2 (by omega)
            have hx0 : bs[(pk (nx (nx r2 1) 1) (bs.length : Int)).toNat]? = some (bs[(pk (nx (nx r2 1) 1) (bs.length : Int)).toNat]'(by omega)) := List.getElem?_eq_getElem (by omega)
            all_goals refine dS ?_
            all_goals refine dC (oF f30_1_CertN rfl rfl) ?_
            all_goals refine dC (oD ty28_NRef rfl rfl rfl) ?_
            all_goals refine dC (oM rfl (Conv.of rfl) rfl) ?_
            all_goals refine dC (oF f30_1_CertN rfl rfl) ?_
            all_goals refine dC (oD ty28_NRef rfl rfl rfl) ?_
            all_goals refine dC (oEA sl28 rfl rfl rfl) ?_
            all_goals refine dC (oLO fb40 (.cons rfl (Conv.of rfl) (.cons rfl (Conv.of rfl) (.nil _))) (pick_ct (nx (nx r2 1) 1) (bs.length : Int) (by unfold Far at hf5; omega)) (olsk rfl ols0) (kK (by exact bC) k0) (kK (by exact bC) k0) rfl (argOb rfl rfl rfl (argOk' rfl rfl argO0)) (fun o ho => by cases ho) rfl) ?_
            all_goals refine dC (op_bsl sl93 z3 (.cons rfl (Conv.of rfl) (.cons rfl (Conv.of rfl) (.cons rfl (Conv.of rfl) (.cons rfl (Conv.of rfl) (.nil _))))) rfl (by decide) rfl) ?_
            all_goals refine dC (op_ixA sl28 rfl rfl rfl rfl ⟨b6.1, by omega⟩) ?_
            all_goals refine dC (op_ste ty93 rfl rfl (Conv.ol) rfl hx0) ?_
            all_goals refine dr_nil mixed rfl ?_
            repeat first | refine nS ?_ | refine nB ?_
            exact ⟨Cert.mk c (bs.set (pk (nx (nx r2 1) 1) (bs.length : Int)).toNat [1, 2, 3, 4]), (by show List.length _ ≤ 20; simp; try omega), Le.trans (b := mkSt 77 [(7, .box 9 (IsLens.whole CertN)), (2, .box 5 (IsLens.whole Wrld)), (3, .box 6 (IsLens.whole Cert)), (5, .box 7 (IsLens.whole Wrld))] [(9, .cell (CertN.mk c (.ref 2))), (2, .arr (bs.set (pk (nx (nx r2 1) 1) (bs.length : Int)).toNat [1, 2, 3, 4])), (5, .cell Wrld.zero), (6, .cell Cert.zero), (7, .cell x)]) (Le.mk rfl (tlb rfl rfl rfl (tlb rfl rfl rfl (tlb rfl rfl rfl (tlb rfl rfl rfl tln)))) (olk rfl (by exact obOkC rfl) (olk rfl (by exact bA) (olk rfl (by exact bC) (olk rfl (by exact bC) (olk rfl (by exact bC) oln))))) noS) (Le.frzCt (t := 7) (c := 9) (o := 2) (by show _ ≤ 4611686018427387904; first | omega | (simp; try omega)) rfl noS rfl rfl rfl (oblk bC (oblk bC (oblk bC obl0))))⟩
          · refine aW ?_
            repeat first | refine nS ?_ | refine nB ?_
            exact ⟨Cert.mk c bs, (by show List.length _ ≤ 20; simp; try omega), Le.trans (b := mkSt 77 [(7, .box 9 (IsLens.whole CertN)), (2, .box 5 (IsLens.whole Wrld)), (3, .box 6 (IsLens.whole Cert)), (5, .box 7 (IsLens.whole Wrld))] [(9, .cell (CertN.mk c (.ref 2))), (2, .arr bs), (5, .cell Wrld.zero), (6, .cell Cert.zero), (7, .cell x)]) (Le.mk rfl (tlb rfl rfl rfl (tlb rfl rfl rfl (tlb rfl rfl rfl (tlb rfl rfl rfl tln)))) (olk rfl (by exact obOkC rfl) (olk rfl (by exact bA) (olk rfl (by exact bC) (olk rfl (by exact bC) (olk rfl (by exact bC) oln))))) noS) (Le.frzCt (t := 7) (c := 9) (o := 2) (by show _ ≤ 4611686018427387904; first | omega | (simp; try omega)) rfl noS rfl rfl rfl (oblk bC (oblk bC (oblk bC obl0))))⟩
        · refine aW ?_
          repeat first | refine nS ?_ | refine nB ?_
          exact ⟨Cert.mk c bs, (by show List.length _ ≤ 20; simp; try omega), Le.trans (b := mkSt 77 [(7, .box 9 (IsLens.whole CertN)), (2, .box 5 (IsLens.whole Wrld)), (3, .box 6 (IsLens.whole Cert)), (5, .box 7 (IsLens.whole Wrld))] [(9, .cell (CertN.mk c (.ref 2))), (2, .arr bs), (5, .cell Wrld.zero), (6, .cell Cert.zero), (7, .cell x)]) (Le.mk rfl (tlb rfl rfl rfl (tlb rfl rfl rfl (tlb rfl rfl rfl (tlb rfl rfl rfl tln)))) (olk rfl (by exact obOkC rfl) (olk rfl (by exact bA) (olk rfl (by exact bC) (olk rfl (by exact bC) (olk rfl (by exact bC) oln))))) noS) (Le.frzCt (t := 7) (c := 9) (o := 2) (by show _ ≤ 4611686018427387904; first | omega | (simp; try omega)) rfl noS rfl rfl rfl (oblk bC (oblk bC (oblk bC obl0))))⟩
    · rintro C hC
      all_goals refine aS (dS ?_)
      all_goals refine dC (oD ty26 rfl rfl rfl) ?_
      all_goals refine dC (oD ty30_Cert rfl rfl rfl) ?_
      all_goals refine dC (op_st ty26 rfl rfl (Conv.of rfl) rfl) ?_
      all_goals refine dC (op_st ty30_Cert rfl rfl (Conv.of rfl) rfl) ?_
      all_goals refine dr_nil mixed rfl ?_
      refine aT ?_
      repeat first | refine rS ?_ | refine rB ?_
      exact ⟨_, _, resN (ol := []) (.cons (.rc ty26 rfl rfl) (.cons (.rc ty30_Cert rfl rfl) .nil)) rfl (fun o ho => absurd (show o ∈ ([] : List Nat) from ho) (by simp)) oln noS, _, _, rfl, rfl, hC⟩
end Go.Proofs.YtmhmeppocbcmeaaGreat
