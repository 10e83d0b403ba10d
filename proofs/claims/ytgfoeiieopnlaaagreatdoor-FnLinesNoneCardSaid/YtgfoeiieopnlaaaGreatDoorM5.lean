/- Part 5 of the proof: texts one behind the other. -/
import Derived.Test.YtgfoeiieopnlaaaGreatDoorM4
import Derived.Lib.Builder
import Derived.Lib.UnsafeStr
import Derived.Lib.Walk
import Derived.WalkKit
import Derived.RegionTactic
import Derived.BigRegion
import Derived.OwnWalk
/- Items of forged chains. -/
set_option linter.unusedVariables false
set_option linter.unusedSimpArgs false
namespace Go.Proofs.YtgfoeiieopnlaaaGreatDoor
open Go Go.Wt
theorem readItem_ct (l : List UInt8) (hl : l.length ≤ 1000000) : CtP Tryz.prog 44 [.v (bs l)] (.v (itemI l)) := by
  unfold itemI
  refine Ct.intro Tryz.func44 rfl rfl ?_
  refine aS (aR ?_)
  refine oC (oX (o := 0) z74 rfl rfl) ?_
  refine oN ?_
  refine aS (aR ?_)
  refine oC (oM rfl (Conv.of rfl) rfl) ?_
  refine oC (oL fb25 (.cons rfl (Conv.of rfl) (.cons rfl (Conv.of rfl) (.nil _))) (split_ct l 58 hl) (aK rfl rfl (aK rfl rfl aK0)) rfl rfl) ?_
  refine oC (oA rfl (Conv.of rfl) rfl) ?_
  refine oN ?_
  refine aS (aS (aR ?_))
  refine oC (oM rfl (Conv.of rfl) rfl) ?_
  refine oC (oE sl29 rfl rfl) ?_
  refine oC (op_neq rfl rfl rfl) ?_
  refine oN ?_
  refine aC rfl (fun h => ?_) (fun h => ?_)
  · have hne : ¬ (splitF 58 l).length = 2 := by simp at h; omega
    rw [if_neg hne]
    refine aS (aR ?_)
    refine oC (op_build (.nil _) z74 rfl pl74 rfl) ?_
    refine oC (op_st ty74 rfl rfl (Conv.of rfl) rfl) ?_
    refine oN ?_
    refine aT ?_
    repeat first | refine rS ?_ | refine rB ?_
    exact finP (.rc ty74 rfl rfl) rfl rfl
  · have h2 : (splitF 58 l).length = 2 := by simp at h; omega
    rw [if_pos h2]
    have hx0 : ((splitF 58 l).map bs)[(0 : Int).toNat]? = some (bs (wordF (splitF 58 l) 0)) := words_at (by omega)
    have hx1 : ((splitF 58 l).map bs)[(1 : Int).toNat]? = some (bs (wordF (splitF 58 l) 1)) := words_at (by omega)
    refine aW ?_
    refine aS (aR ?_)
    refine oC (oM rfl (Conv.of rfl) rfl) ?_
    refine oC (op_ix sl29 rfl rfl rfl (by decide) hx0) ?_
    refine oC (oDR ty9 rfl rfl) ?_
    refine oC (oL fb75 (.cons rfl (Conv.of rfl) (.cons rfl (Conv.of rfl) (.cons rfl (Conv.of rfl) (.nil _)))) (digits_ct _ 1 2 (by decide)) (aK rfl rfl (aK rfl rfl (aK rfl rfl aK0))) rfl rfl) ?_
    refine oC (oM rfl (Conv.of rfl) rfl) ?_
    refine oC (op_ext rfl rfl rfl) ?_
    refine oC (op_ext rfl rfl rfl) ?_
    refine oC (oA rfl (Conv.of rfl) rfl) ?_
    refine oC (oA rfl (Conv.of rfl) rfl) ?_
    refine oN ?_
    refine aS (aS (aR ?_))
    refine oC (oM rfl (Conv.of rfl) rfl) ?_
    refine oC (op_not rfl rfl) ?_
    refine oN ?_
    refine awp_to (s' := mkSt 27 [(2, .box 0 (IsLens.whole Itm)), (3, .v ((splitF 58 l).map bs)), (4, .v (numF (wordF (splitF 58 l) 0)))] [(0, .cell Itm.zero)]) ?_ ?_
    · unfold numF
      cases digF (wordF (splitF 58 l) 0) 1 2 with
      | none =>
        refine aC rfl (fun h => ?_) (fun h => absurd h (by decide))
        refine aR ?_
        refine oC (oA rfl (Conv.of rfl) rfl) ?_
        refine oN ?_
        all_goals exact Le.mk rfl (tlb rfl rfl rfl (tle rfl (rfl) rfl (tle rfl (rfl) rfl tln))) (olk rfl (by exact bC) oln) noS
      | some n =>
        refine aC rfl (fun h => by simp at h) (fun h => ?_)
        refine aW ?_
        all_goals exact Le.mk rfl (tlb rfl rfl rfl (tle rfl (rfl) rfl (tle rfl (rfl) rfl tln))) (olk rfl (by exact bC) oln) noS
    refine aS (aR ?_)
    refine oC (oM rfl (Conv.of rfl) rfl) ?_
    refine oC (oM rfl (Conv.of rfl) rfl) ?_
    refine oC (op_ix sl29 rfl rfl rfl (by decide) hx1) ?_
    refine oC (oDR ty9 rfl rfl) ?_
    refine oC (oL fb42 (.cons rfl (Conv.of rfl) (.nil _)) (readPay_ct _) (aK rfl rfl aK0) rfl rfl) ?_
    refine oC (op_build (.cons f74_0 rfl (Conv.of rfl) (.cons f74_1 rfl (Conv.of rfl) (.nil _))) z74 rfl pl74 rfl) ?_
    refine oC (op_st ty74 rfl rfl (Conv.of rfl) rfl) ?_
    refine oN ?_
    refine aT ?_
    repeat first | refine rS ?_ | refine rB ?_
    exact finP (.rc ty74 rfl rfl) rfl rfl
theorem l31Chain_ct (s : List UInt8) (hl : s.length ≤ 1000000) : CtP Tryz.prog 63 [.v (bs s)] (.v ((splitF 44 s).map itemS)) := by
  have hsl := splitF_len 44 s
  have hcl := count_le s 44
  have hpt := splitF_part 44 s
  refine Ct.intro Tryz.func63 rfl rfl ?_
  refine aS (aR ?_)
  refine oC (oA rfl (Conv.of rfl) rfl) ?_
  refine oN ?_
  refine aS (aR ?_)
  refine oC (op_bsl sl72 z74 (.nil _) rfl (by decide) rfl) ?_
  refine oC (op_asl rfl rfl rfl rfl) ?_
  refine oN ?_
  refine aS (aR ?_)
  refine oC (oM rfl (Conv.of rfl) rfl) ?_
  refine oC (oL fb29 (.cons rfl (Conv.of rfl) (.cons rfl (Conv.of rfl) (.nil _))) (l1Cut_ct s 44 hl) (aK rfl rfl (aK rfl rfl aK0)) rfl rfl) ?_
  refine oC (oA rfl (Conv.of rfl) rfl) ?_
  refine oN ?_
  refine aS (aS (aR ?_))
  refine oC (oA rfl (Conv.of rfl) rfl) ?_
  refine oN ?_
  generalize splitF 44 s = ps at hsl hpt ⊢
  refine aB ?_
  refine awp_loop' (fun n_ s => ∃ (k : Nat), ∃ (hk : n_ + k = ps.length), s = mkSt 40 [(3, .v (OList.mk ((ps.take k).map itemS) true)), (4, .v (ps.map bs)), (5, .v (k : Int))] []) (ps.length) ⟨0, by omega, rfl⟩ (Le.mk rfl (tle rfl (by rfl) rfl (tle rfl (rfl) rfl (tle rfl (rfl) rfl tln))) oln noS) ?_
  rintro n_ s ⟨k, hk, rfl⟩
  refine aS (aS (aR ?_))
  refine oC (oM rfl (Conv.of rfl) rfl) ?_
  refine oC (oM rfl (Conv.of rfl) rfl) ?_
  refine oC (oE sl29 rfl rfl) ?_
  refine oC (oLt rfl rfl rfl) ?_
  refine oN ?_
  refine aC rfl (fun h => ?_) (fun h => ?_)
  · have hlt : k < ps.length := by
      have h0 : (k : Int) < ((ps.map bs).length : Int) := of_decide_eq_true h
      simpa using h0
    have hx : ps[k]? = some ps[k] := List.getElem?_eq_getElem hlt
    have hpl := hpt _ (List.getElem_mem hlt)
    generalize ps[k] = w at hx hpl
    have hx' : (ps.map bs)[(k : Int).toNat]? = some (bs w) := by rw [Int.toNat_natCast, List.getElem?_map, hx]; rfl
    have hpos : 0 < (splitF 58 w).length := by rw [splitF_len]; omega
    have hx0 : ((splitF 58 w).map bs)[(0 : Int).toNat]? = some (bs (wordF (splitF 58 w) 0)) := words_at hpos
    refine aW ?_
    refine aS (aB ?_)
    refine aS (aR ?_)
    refine oC (oM rfl (Conv.of rfl) rfl) ?_
    refine oC (oM rfl (Conv.of rfl) rfl) ?_
    refine oC (op_ix sl29 rfl rfl rfl (by omega) hx') ?_
    refine oC (oDR ty9 rfl rfl) ?_
    refine oC (oL fb29 (.cons rfl (Conv.of rfl) (.cons rfl (Conv.of rfl) (.nil _))) (l1Cut_ct w 58 (by omega)) (aK rfl rfl (aK rfl rfl aK0)) rfl rfl) ?_
    refine oC (oA rfl (Conv.of rfl) rfl) ?_
    refine oN ?_
    refine aS (aR ?_)
    refine oC (oM rfl (Conv.of rfl) rfl) ?_
    refine oC (op_ix sl29 rfl rfl rfl (by decide) hx0) ?_
    refine oC (oDR ty9 rfl rfl) ?_
    refine oC (oL fb93 (.cons rfl (Conv.of rfl) (.nil _)) (l1Dec_ct _) (aK rfl rfl aK0) rfl rfl) ?_
    refine oC (op_build (.cons f74_0 rfl (Conv.of rfl) (.nil _)) z74 rfl pl74 rfl) ?_
    refine oC (oX (o := 5) z74 rfl rfl) ?_
    refine oC (op_st ty74 rfl rfl (Conv.of rfl) rfl) ?_
    refine oN ?_
    refine aS (aS (aR ?_))
    refine oC (oM rfl (Conv.of rfl) rfl) ?_
    refine oC (oE sl29 rfl rfl) ?_
    refine oC (op_eql rfl rfl rfl) ?_
    refine oN ?_
    refine awp_to (s' := mkSt 40 [(3, .v (OList.mk ((ps.take k).map itemS) true)), (4, .v (ps.map bs)), (5, .v (k : Int)), (7, .box 5 (IsLens.whole Itm))] [(5, .cell (itemS w))]) ?_ ?_
    · refine aC rfl (fun h2 => ?_) (fun h2 => ?_)
      · have h2l : (splitF 58 w).length = 2 := by simp at h2; omega
        have hx1 : ((splitF 58 w).map bs)[(1 : Int).toNat]? = some (bs (wordF (splitF 58 w) 1)) := words_at (by omega)
        refine aR ?_
        refine oC (oM rfl (Conv.of rfl) rfl) ?_
        refine oC (op_ix sl29 rfl rfl rfl (by decide) hx1) ?_
        refine oC (oDR ty9 rfl rfl) ?_
        refine oC (oL fb59 (.cons rfl (Conv.of rfl) (.nil _)) (l1Pay_ct _) (aK rfl rfl aK0) rfl rfl) ?_
        refine oC (oF f74_1 rfl rfl) ?_
        refine oC (op_st ty61 rfl rfl (Conv.of rfl) rfl) ?_
        refine oN ?_
        all_goals exact Le.mk rfl (tle rfl (rfl) rfl (tle rfl (rfl) rfl (tle rfl (rfl) rfl (tlb rfl rfl rfl tln)))) (olk (by (unfold itemS; rw [if_pos h2l]; rfl)) (by exact bC) oln) noS
      · have h2l : ¬ (splitF 58 w).length = 2 := by simp at h2; omega
        refine aW ?_
        all_goals exact Le.mk rfl (tle rfl (rfl) rfl (tle rfl (rfl) rfl (tle rfl (rfl) rfl (tlb rfl rfl rfl tln)))) (olk (by (unfold itemS; rw [if_neg h2l]; rfl)) (by exact bC) oln) noS
    refine aR ?_
    refine oC (op_mvl rfl rfl rfl rfl) ?_
    refine oC (oD ty74 rfl rfl rfl) ?_
    refine oC (op_bsl sl72 z74 (.cons rfl (Conv.of rfl) (.nil _)) rfl (by decide) rfl) ?_
    refine oC (op_app sl72 z74 ul72 rfl rfl rfl (by (simp; omega)) (by (simp; omega)) rfl rfl) ?_
    refine oC (op_asl rfl rfl rfl rfl) ?_
    refine oN ?_
    refine aR ?_
    refine oC (oM rfl (Conv.of rfl) rfl) ?_
    refine oC (oP rfl rfl rfl (by omega)) ?_
    refine oC (oA rfl (Conv.of rfl) rfl) ?_
    refine oN ?_
    repeat first | refine nS ?_ | refine nB ?_
    exact ⟨n_ - 1, _, by omega, ⟨k + 1, by omega, rfl⟩, Le.mk rfl (tle rfl (by (first | rfl | (rw [take_at hx]; simp))) rfl (tle rfl (rfl) rfl (tle rfl (rfl) rfl tln))) oln noS⟩
  · refine aE ?_
    repeat refine ex_seq ?_
    refine eB ?_
    have hk2 : ps.length ≤ k := by
      have h0 : ¬ ((k : Int) < ((ps.map bs).length : Int)) := of_decide_eq_false h
      simpa using h0
    refine aS (aR ?_)
    refine oC (op_mvl rfl rfl rfl rfl) ?_
    refine oC (op_asl rfl rfl rfl rfl) ?_
    refine oN ?_
    refine aT ?_
    repeat first | refine rS ?_ | refine rB ?_
    refine finP (.v rfl Conv.ol) rfl ?_
    simp only [take_end hk2]; rfl
end Go.Proofs.YtgfoeiieopnlaaaGreatDoor

/- The reference: what a node holds for final, as a line. -/
set_option linter.unusedVariables false
set_option linter.unusedSimpArgs false
namespace Go.Proofs.YtgfoeiieopnlaaaGreatDoor
open Go Go.Wt
theorem fN_conv {n : Nod} : Conv (.v (fN n)) (.v n) := fun {G w ω ω' u} ⟨cs, h1, h2⟩ => ⟨cs, Plain.mono (Sh.refl _ _) (rd_FN h1), h2⟩
set_option maxHeartbeats 1000000 in
theorem l31Node_ct (w : Wrld) (hw : FineX w) (id : Int) (hid : 1 ≤ id ∧ id ≤ 4) (n : Nod) (hx : w.nodes[(id - 1).toNat]? = some n) : CtO Tryz.prog 31 [.v (fW w), .v id] (so w) (.v (bs (statusF id n))) (so w) := by
  have h4 := hw.four
  have hno := hw.nodes n (List.mem_of_getElem? hx)
  have hs := nodeOk_seen hno
  have hg := gdOf hs.1 (by omega)
  have hfc := final_chainOk (votesOk_mem hs.1)
  have hfl := chainOk_len hfc
  have hbk := book_bk hfc
  have hk9 := l11Final_ct n.seen hg
  rw [finalS_eq hs.1] at hk9
  have hh := statHead_len id (finalOf n.seen)
  have hnb := sNodeBook_ct n
  rw [show nodeBookR n = bookF (finalOf n.seen) by unfold nodeBookR; rw [if_pos hno]] at hnb
  have hx' : (w.nodes.map sN)[(id - 1).toNat]? = some (sN n) := by rw [List.getElem?_map, hx]; rfl
  unfold statusF
  generalize finalOf n.seen = c at hfc hfl hbk hk9 hh hnb ⊢
  have hbl := hbk.len
  generalize bookF c = b at hbk hnb hbl ⊢
  have hsl := stat_len b (statHead id c)
  refine Ct.intro Tryz.func31 rfl rfl ?_
  refine aS (aR ?_)
  refine oC (op_box (o := 5) tW rfl (Conv.of rfl) rfl rfl) ?_
  refine oC (oA rfl (Conv.of rfl) rfl) ?_
  refine oN ?_
  refine aS (aR ?_)
  refine oC (oF f38_1_WrldS rfl rfl) ?_
  refine oC (oD ty35_NRef rfl rfl rfl) ?_
  refine oC (oM rfl (Conv.of rfl) rfl) ?_
  refine oC (op_sub rfl rfl rfl (by omega)) ?_
  refine oC (op_ixA sl35_NodS rfl rfl rfl rfl ⟨by omega, by simp; omega⟩) ?_
  refine oC (op_ldde tN rfl rfl hx' rfl) ?_
  refine oC (oX (o := 6) z66_NodS rfl rfl) ?_
  refine oC (op_st tN rfl rfl (Conv.of rfl) rfl) ?_
  refine oN ?_
  refine aS (aR ?_)
  refine oC (op_ldd tN rfl rfl rfl) ?_
  refine oC (oL fb67 (.cons rfl (fN_conv) (.nil _)) (hnb) (aK rfl rfl aK0) rfl rfl) ?_
  refine oC (oA rfl (Conv.of rfl) rfl) ?_
  refine oN ?_
  refine aS (dS ?_)
  refine dC (oM rfl (Conv.of rfl) rfl) ?_
  refine dC (oL fb32 (.cons rfl (Conv.of rfl) (.nil _)) (l6Dec_ct id (by omega)) (aK rfl rfl aK0) rfl rfl) ?_
  refine dC (op_adds rfl rfl rfl (by (simp; have := decI_len id; omega))) ?_
  refine dC (oF f66_3_NodS rfl rfl) ?_
  refine dC (op_ldl ty36_OListVote rfl rfl rfl) ?_
  refine dC (oL fb68 (.cons rfl (Conv.of rfl) (.nil _)) (hk9) (aK rfl rfl aK0) rfl rfl) ?_
  refine dC (oE sl72 rfl rfl) ?_
  refine dC (oL fb32 (.cons rfl (Conv.of rfl) (.nil _)) (l6Dec_ct _ (by show 0 ≤ (c.length : Int) ∧ (c.length : Int) < 100; omega)) (aK rfl rfl aK0) rfl rfl) ?_
  refine dC (op_adds rfl rfl rfl (by (simp; have := decI_len id; have := decI_len (c.length : Int); omega))) ?_
  refine dC (oA rfl (Conv.of rfl) rfl) ?_
  refine dr_nil mixed rfl ?_
  refine aS (aS (aR ?_))
  refine oC (oA rfl (Conv.of rfl) rfl) ?_
  refine oN ?_
  refine awp_to (s' := mkSt 42 [(7, .v (bs (b.foldl statStep (statHead id c))))] [(1, .arr (w.nodes.map sN))]) ?_ ?_
  · refine aB ?_
    refine awp_loop' (fun n_ s => ∃ (k : Nat), ∃ (hk : n_ + k = 3), s = mkSt 42 [(6, .v b), (7, .v (bs ((b.take k).foldl statStep (statHead id c)))), (8, .v (k : Int))] [(1, .arr (w.nodes.map sN))]) (3) ⟨0, by omega, rfl⟩ (Le.mk rfl (tle rfl (rfl) rfl (tle rfl (by rfl) rfl (tle rfl (rfl) rfl tln))) (olk rfl (by exact bN) oln) (hU (a := so w) rfl)) ?_
    rintro n_ s ⟨k, hk, rfl⟩
    refine aS (aS (aR ?_))
    refine oC (oM rfl (Conv.of rfl) rfl) ?_
    refine oC (oM rfl (Conv.of rfl) rfl) ?_
    refine oC (oE sl87 rfl rfl) ?_
    refine oC (oLt rfl rfl rfl) ?_
    refine oN ?_
    refine aC rfl (fun h => ?_) (fun h => ?_)
    · have hlt : k < 3 := by
        have h0 : (k : Int) < (b.length : Int) := of_decide_eq_true h
        omega
      obtain ⟨x, hxk, _, hx0, hx27⟩ := hbk.at hlt
      have hxk' : b[(k : Int).toNat]? = some x := hxk
      have hdl := decI_len x
      have hst := stat_len (b.take k) (statHead id c)
      have htl : (b.take k).length ≤ 3 := by rw [List.length_take]; omega
      refine aW ?_
      refine aS (aB ?_)
      refine aR ?_
      refine oC (oM rfl (Conv.of rfl) rfl) ?_
      refine oC (op_adds rfl rfl rfl (by (simp; omega))) ?_
      refine oC (oM rfl (Conv.of rfl) rfl) ?_
      refine oC (oM rfl (Conv.of rfl) rfl) ?_
      refine oC (op_ix sl87 rfl rfl rfl (by omega) hxk') ?_
      refine oC (oDR ty3 rfl rfl) ?_
      refine oC (oL fb32 (.cons rfl (Conv.of rfl) (.nil _)) (l6Dec_ct x (by omega)) (aK rfl rfl aK0) rfl rfl) ?_
      refine oC (op_adds rfl rfl rfl (by (simp; omega))) ?_
      refine oC (oA rfl (Conv.of rfl) rfl) ?_
      refine oN ?_
      refine aR ?_
      refine oC (oM rfl (Conv.of rfl) rfl) ?_
      refine oC (oP rfl rfl rfl (by omega)) ?_
      refine oC (oA rfl (Conv.of rfl) rfl) ?_
      refine oN ?_
      repeat first | refine nS ?_ | refine nB ?_
      exact ⟨n_ - 1, _, by omega, ⟨k + 1, by omega, rfl⟩, Le.mk rfl (tle rfl (rfl) rfl (tle rfl (by (first | rfl | (rw [foldl_at statStep _ hxk]; show AV.v (bs _) = AV.v (bs _); congr 1; unfold statStep; simp))) rfl (tle rfl (rfl) rfl tln))) (olk rfl (by exact bN) oln) (hU (a := so w) rfl)⟩
    · refine aE ?_
      repeat refine ex_seq ?_
      refine eB ?_
      have hk3 : b.length ≤ k := by
        have h0 : ¬ ((k : Int) < (b.length : Int)) := of_decide_eq_false h
        omega
      all_goals exact Le.mk rfl (tle rfl (by (rw [take_end hk3])) rfl tln) (olk rfl (by exact bN) oln) (hU (a := so w) rfl)
  refine aS (aR ?_)
  refine oC (oM rfl (Conv.of rfl) rfl) ?_
  refine oC (op_adds rfl rfl rfl (by (simp; omega))) ?_
  refine oC (oA rfl (Conv.of rfl) rfl) ?_
  refine oN ?_
  refine aT ?_
  repeat first | refine rS ?_ | refine rB ?_
  refine ⟨_, _, res1 (ol := so w) (.v rfl (Conv.of rfl)) (fun o ho => by cases ho) (olk rfl bN oln) (hK rfl), rfl, rfl⟩
end Go.Proofs.YtgfoeiieopnlaaaGreatDoor

/- What a line does. -/
set_option linter.unusedVariables false
set_option linter.unusedSimpArgs false
namespace Go.Proofs.YtgfoeiieopnlaaaGreatDoor
open Go Go.Wt
theorem rep_fold (w : Wrld) (p : Pay) (k : Nat) : (List.replicate (k + 1) p).foldl calmF w = calmF ((List.replicate k p).foldl calmF w) p := by
  rw [List.replicate_succ', List.foldl_append]; rfl
set_option maxHeartbeats 4000000 in
theorem execute_ct (w : Wrld) (hw : FineX w) (ws : List (List UInt8)) (hl : (wordF ws 1).length ≤ 1000000) : CtO Tryz.prog 24 [.box 0 (IsLens.whole WrldA), .v (ws.map bs)] (wo w) (.v (bs (lineI w ws).2)) (wo (lineI w ws).1) := by
  have h4 := hw.four
  have hll := hw.ll
  have hf := hw.fine
  unfold lineI
  refine Ct.intro Tryz.func24 rfl rfl ?_
  refine aS (aR ?_)
  refine oC (oA rfl (Conv.of rfl) rfl) ?_
  refine oN ?_
  refine aS (aS (aR ?_))
  refine oC (oM rfl (Conv.of rfl) rfl) ?_
  refine oC (oL fb38 (.cons rfl (Conv.of rfl) (.cons rfl (Conv.of rfl) (.nil _))) (word_ct ws 0) (aK rfl rfl (aK rfl rfl aK0)) rfl rfl) ?_
  refine oN ?_
  generalize wordF ws 0 = v
  refine aB ?_
  refine aS (aR ?_)
  refine oC (op_eqls rfl rfl rfl) ?_
  refine oC (oA rfl (Conv.of rfl) rfl) ?_
  refine oN ?_
  refine aC rfl (fun h => ?_) (fun h => ?_)
  · rw [if_pos (of_decide_eq_true h)]
    refine aR ?_
    refine oC (oM rfl (Conv.of rfl) rfl) ?_
    refine oC (oLO fb39 (.cons rfl (Conv.of rfl) (.nil _)) (tick_ct w hf) (olsk rfl (olsk rfl ols0)) (kK (by exact obOkW rfl) (kK (by exact bA) k0)) (kK (by exact obOkW rfl) (kK (by exact bA) k0)) rfl (argOb rfl rfl rfl argO0) (fun o ho => by cases ho) rfl) ?_
    refine oN ?_
    refine aS (aR ?_)
    refine oC (oA rfl (Conv.of rfl) rfl) ?_
    refine oN ?_
    refine aT ?_
    repeat first | refine rS ?_ | refine rB ?_
    refine ⟨_, _, res1 (ol := wo (tickF w)) (.v rfl (Conv.of rfl)) (fun o ho => by cases ho) (olk rfl (obOkW rfl) (olk rfl bA oln)) (hK rfl), rfl, rfl⟩
  rw [if_neg (of_decide_eq_false h)]
  refine aS (aR ?_)
  refine oC (op_eqls rfl rfl rfl) ?_
  refine oC (oA rfl (Conv.of rfl) rfl) ?_
  refine oN ?_
  refine aC rfl (fun h => ?_) (fun h => ?_)
  · rw [if_pos (of_decide_eq_true h)]
    refine aR ?_
    refine oC (oM rfl (Conv.of rfl) rfl) ?_
    refine oC (oM rfl (Conv.of rfl) rfl) ?_
    refine oC (oL fb41 (.cons rfl (Conv.of rfl) (.cons rfl (Conv.of rfl) (.nil _))) (number_ct ws 1) (aK rfl rfl (aK rfl rfl aK0)) rfl rfl) ?_
    refine oC (oM rfl (Conv.of rfl) rfl) ?_
    refine oC (oL fb38 (.cons rfl (Conv.of rfl) (.cons rfl (Conv.of rfl) (.nil _))) (word_ct ws 2) (aK rfl rfl (aK rfl rfl aK0)) rfl rfl) ?_
    refine oC (oL fb42 (.cons rfl (Conv.of rfl) (.nil _)) (readPay_ct _) (aK rfl rfl aK0) rfl rfl) ?_
    refine oC (oLO fb40 (.cons rfl (Conv.of rfl) (.cons rfl (Conv.of rfl) (.cons rfl (Conv.of rfl) (.nil _)))) (wpropose_ct w _ _ hf) (olsk rfl (olsk rfl ols0)) (kK (by exact obOkW rfl) (kK (by exact bA) k0)) (kK (by exact obOkW rfl) (kK (by exact bA) k0)) rfl (argOb rfl rfl rfl (argOk' rfl rfl (argOk' rfl rfl argO0))) (fun o ho => by cases ho) rfl) ?_
    refine oN ?_
    refine aS (aR ?_)
    refine oC (oA rfl (Conv.of rfl) rfl) ?_
    refine oN ?_
    refine aT ?_
    repeat first | refine rS ?_ | refine rB ?_
    refine ⟨_, _, res1 (ol := wo (wproposeF w (numF (wordF ws 1)) (payOfF (wordF ws 2)))) (.v rfl (Conv.of rfl)) (fun o ho => by cases ho) (olk rfl (obOkW rfl) (olk rfl bA oln)) (hK rfl), rfl, rfl⟩
  rw [if_neg (of_decide_eq_false h)]
  refine aS (aR ?_)
  refine oC (op_eqls rfl rfl rfl) ?_
  refine oC (oA rfl (Conv.of rfl) rfl) ?_
  refine oN ?_
  refine aC rfl (fun h => ?_) (fun h => ?_)
  · rw [if_pos (of_decide_eq_true h)]
    refine aR ?_
    refine oC (oM rfl (Conv.of rfl) rfl) ?_
    refine oC (oM rfl (Conv.of rfl) rfl) ?_
    refine oC (oL fb41 (.cons rfl (Conv.of rfl) (.cons rfl (Conv.of rfl) (.nil _))) (number_ct ws 1) (aK rfl rfl (aK rfl rfl aK0)) rfl rfl) ?_
    refine oC (oM rfl (Conv.of rfl) rfl) ?_
    refine oC (oL fb41 (.cons rfl (Conv.of rfl) (.cons rfl (Conv.of rfl) (.nil _))) (number_ct ws 2) (aK rfl rfl (aK rfl rfl aK0)) rfl rfl) ?_
    refine oC (oLO fb43 (.cons rfl (Conv.of rfl) (.cons rfl (Conv.of rfl) (.cons rfl (Conv.of rfl) (.nil _)))) (wbring_ct w _ _ hf) (olsk rfl (olsk rfl ols0)) (kK (by exact obOkW rfl) (kK (by exact bA) k0)) (kK (by exact obOkW rfl) (kK (by exact bA) k0)) rfl (argOb rfl rfl rfl (argOk' rfl rfl (argOk' rfl rfl argO0))) (fun o ho => by cases ho) rfl) ?_
    refine oN ?_
    refine aS (aR ?_)
    refine oC (oA rfl (Conv.of rfl) rfl) ?_
    refine oN ?_
    refine aT ?_
    repeat first | refine rS ?_ | refine rB ?_
    refine ⟨_, _, res1 (ol := wo (wbringF w (numF (wordF ws 1)) (numF (wordF ws 2)))) (.v rfl (Conv.of rfl)) (fun o ho => by cases ho) (olk rfl (obOkW rfl) (olk rfl bA oln)) (hK rfl), rfl, rfl⟩
  rw [if_neg (of_decide_eq_false h)]
  refine aS (aR ?_)
  refine oC (op_eqls rfl rfl rfl) ?_
  refine oC (oA rfl (Conv.of rfl) rfl) ?_
  refine oN ?_
  refine aC rfl (fun h => ?_) (fun h => ?_)
  · rw [if_pos (of_decide_eq_true h)]
    have hpt := splitF_part 44 (wordF ws 1)
    have hsl := splitF_len 44 (wordF ws 1)
    have hcl := count_le (wordF ws 1) 44
    refine aS (aR ?_)
    refine oC (op_bsl sl72 z74 (.nil _) rfl (by decide) rfl) ?_
    refine oC (op_asl rfl rfl rfl rfl) ?_
    refine oN ?_
    refine aS (aS (aR ?_))
    refine oC (oM rfl (Conv.of rfl) rfl) ?_
    refine oC (oL fb38 (.cons rfl (Conv.of rfl) (.cons rfl (Conv.of rfl) (.nil _))) (word_ct ws 1) (aK rfl rfl (aK rfl rfl aK0)) rfl rfl) ?_
    refine oC (oL fb25 (.cons rfl (Conv.of rfl) (.cons rfl (Conv.of rfl) (.nil _))) (split_ct _ 44 hl) (aK rfl rfl (aK rfl rfl aK0)) rfl rfl) ?_
    refine oC (oE sl29 rfl rfl) ?_
    refine oC (oM rfl (Conv.of rfl) rfl) ?_
    refine oN ?_
    unfold chainI
    generalize splitF 44 (wordF ws 1) = ps at hpt hsl ⊢
    refine awp_to (s' := mkSt 98 [(0, .box 0 (IsLens.whole WrldA)), (5, .v (ps.map itemI))] [(0, .cell (wA w)), (1, .arr w.nodes)]) ?_ ?_
    · refine aB ?_
      refine awp_loop' (fun n_ s => ∃ (k : Nat), ∃ (hk : n_ + k = ps.length), s = mkSt 98 [(0, .box 0 (IsLens.whole WrldA)), (5, .v (OList.mk ((ps.take k).map itemI) true)), (38, .v (ps.map bs)), (39, .v ((ps.map bs).length : Int)), (40, .v (k : Int))] [(0, .cell (wA w)), (1, .arr w.nodes)]) (ps.length) ⟨0, by omega, rfl⟩ (Le.mk rfl (tlb rfl rfl rfl (tle rfl (by rfl) rfl (tle rfl (rfl) rfl (tle rfl (rfl) rfl (tle rfl (rfl) rfl tln))))) (olk rfl (by exact obOkW rfl) (olk rfl (by exact bA) oln)) (hU (a := wo w) rfl)) ?_
      rintro n_ s ⟨k, hk, rfl⟩
      refine aS (aR ?_)
      refine oC (oLt rfl rfl rfl) ?_
      refine oN ?_
      refine aS (aC rfl (fun h => ?_) (fun h => ?_))
      · have hlt : k < ps.length := by
          have h0 : (k : Int) < ((ps.map bs).length : Int) := of_decide_eq_true h
          simpa using h0
        have hx : ps[k]? = some ps[k] := List.getElem?_eq_getElem hlt
        have hpl := hpt _ (List.getElem_mem hlt)
        generalize ps[k] = x at hx hpl
        have hx' : (ps.map bs)[(k : Int).toNat]? = some (bs x) := by rw [Int.toNat_natCast, List.getElem?_map, hx]; rfl
        refine aW ?_
        refine aS (aB ?_)
        refine aS (aR ?_)
        refine oC (op_ix sl29 rfl rfl rfl (by omega) hx') ?_
        refine oC (oDR ty9 rfl rfl) ?_
        refine oC (oA rfl (Conv.of rfl) rfl) ?_
        refine oN ?_
        refine aR ?_
        refine oC (op_mvl rfl rfl rfl rfl) ?_
        refine oC (oM rfl (Conv.of rfl) rfl) ?_
        refine oC (oL fb44 (.cons rfl (Conv.of rfl) (.nil _)) (readItem_ct x (by omega)) (aK rfl rfl aK0) rfl rfl) ?_
        refine oC (op_bsl sl72 z74 (.cons rfl (Conv.of rfl) (.nil _)) rfl (by decide) rfl) ?_
        refine oC (op_app sl72 z74 ul72 rfl rfl rfl (by (simp; omega)) (by (simp; omega)) rfl rfl) ?_
        refine oC (op_asl rfl rfl rfl rfl) ?_
        refine oN ?_
        refine aR ?_
        refine oC (oP rfl rfl rfl (by omega)) ?_
        refine oC (oM rfl (Conv.of rfl) rfl) ?_
        refine oN ?_
        repeat first | refine nS ?_ | refine nB ?_
        exact ⟨n_ - 1, _, by omega, ⟨k + 1, by omega, rfl⟩, Le.mk rfl (tlb rfl rfl rfl (tle rfl (by (first | rfl | (rw [take_at hx]; simp))) rfl (tle rfl (rfl) rfl (tle rfl (rfl) rfl (tle rfl (rfl) rfl tln))))) (olk rfl (by exact obOkW rfl) (olk rfl (by exact bA) oln)) (hU (a := wo w) rfl)⟩
      · refine aE ?_
        repeat refine ex_seq ?_
        refine eB ?_
        have hk2 : ps.length ≤ k := by
          have h0 : ¬ ((k : Int) < ((ps.map bs).length : Int)) := of_decide_eq_false h
          simpa using h0
        all_goals exact Le.mk rfl (tlb rfl rfl rfl (tlc rfl ((by rw [take_end hk2]; exact Conv.ol)) rfl tln)) (olk rfl (by exact obOkW rfl) (olk rfl (by exact bA) oln)) (hU (a := wo w) rfl)
    refine aR ?_
    refine oC (oM rfl (Conv.of rfl) rfl) ?_
    refine oC (oM rfl (Conv.of rfl) rfl) ?_
    refine oC (oNB rfl rfl) ?_
    refine oC (oF f38_3_WrldA rfl rfl) ?_
    refine oC (oD ty3 rfl rfl rfl) ?_
    refine oC (oM rfl (Conv.of rfl) rfl) ?_
    refine oC (op_build (.cons f78_0 rfl (Conv.of rfl) (.cons f78_1 rfl (Conv.of rfl) (.nil _))) z78 rfl pl78 rfl) ?_
    refine oC (op_build (.cons f80_0 rfl (Conv.of rfl) (.cons f80_4 rfl (Conv.of rfl) (.nil _))) z80 rfl pl80 rfl) ?_
    refine oC (oLO fb45 (.cons rfl (Conv.of rfl) (.cons rfl (Conv.of rfl) (.nil _))) (do_ct w ⟨4, 0, 0, .zero, ⟨w.bad, ps.map itemI⟩⟩ hf) (olsk rfl (olsk rfl ols0)) (kK (by exact obOkW rfl) (kK (by exact bA) k0)) (kK (by exact obOkW rfl) (kK (by exact bA) k0)) rfl (argOb rfl rfl rfl (argOk' rfl rfl argO0)) (fun o ho => by cases ho) rfl) ?_
    refine oN ?_
    refine aS (aR ?_)
    refine oC (oA rfl (Conv.of rfl) rfl) ?_
    refine oN ?_
    refine aT ?_
    repeat first | refine rS ?_ | refine rB ?_
    refine ⟨_, _, res1 (ol := wo (doF w ⟨4, 0, 0, .zero, ⟨w.bad, ps.map itemI⟩⟩)) (.v rfl (Conv.of rfl)) (fun o ho => by cases ho) (olk rfl (obOkW rfl) (olk rfl bA oln)) (hK rfl), rfl, rfl⟩
  rw [if_neg (of_decide_eq_false h)]
  refine aS (aR ?_)
  refine oC (op_eqls rfl rfl rfl) ?_
  refine oC (oA rfl (Conv.of rfl) rfl) ?_
  refine oN ?_
  refine aC rfl (fun h => ?_) (fun h => ?_)
  · rw [if_pos (of_decide_eq_true h)]
    refine aR ?_
    refine oC (oM rfl (Conv.of rfl) rfl) ?_
    refine oC (oLO fb46 (.cons rfl (Conv.of rfl) (.nil _)) (spread_ct w hf) (olsk rfl (olsk rfl ols0)) (kK (by exact obOkW rfl) (kK (by exact bA) k0)) (kK (by exact obOkW rfl) (kK (by exact bA) k0)) rfl (argOb rfl rfl rfl argO0) (fun o ho => by cases ho) rfl) ?_
    refine oN ?_
    refine aS (aR ?_)
    refine oC (oA rfl (Conv.of rfl) rfl) ?_
    refine oN ?_
    refine aT ?_
    repeat first | refine rS ?_ | refine rB ?_
    refine ⟨_, _, res1 (ol := wo (spreadF w)) (.v rfl (Conv.of rfl)) (fun o ho => by cases ho) (olk rfl (obOkW rfl) (olk rfl bA oln)) (hK rfl), rfl, rfl⟩
  rw [if_neg (of_decide_eq_false h)]
  refine aS (aR ?_)
  refine oC (op_eqls rfl rfl rfl) ?_
  refine oC (oA rfl (Conv.of rfl) rfl) ?_
  refine oN ?_
  refine aC rfl (fun h => ?_) (fun h => ?_)
  · rw [if_pos (of_decide_eq_true h)]
    have hnc := number_ct ws 1
    generalize numF (wordF ws 1) = n at hnc ⊢
    refine aS (aR ?_)
    refine oC (oM rfl (Conv.of rfl) rfl) ?_
    refine oC (oL fb38 (.cons rfl (Conv.of rfl) (.cons rfl (Conv.of rfl) (.nil _))) (word_ct ws 2) (aK rfl rfl (aK rfl rfl aK0)) rfl rfl) ?_
    refine oC (oL fb42 (.cons rfl (Conv.of rfl) (.nil _)) (readPay_ct _) (aK rfl rfl aK0) rfl rfl) ?_
    refine oC (oX (o := 2) z61 rfl rfl) ?_
    refine oC (op_st ty61 rfl rfl (Conv.of rfl) rfl) ?_
    refine oN ?_
    generalize payOfF (wordF ws 2) = p
    have hpk := payOk_ct p
    refine aS (aR ?_)
    refine oC (oD ty61 rfl rfl rfl) ?_
    refine oC (oL fb47 (.cons rfl (Conv.of rfl) (.nil _)) (hpk) (aK rfl rfl aK0) rfl rfl) ?_
    refine oN ?_
    unfold calmI
    refine awp_toB (s' := mkSt 98 [(0, .box 0 (IsLens.whole WrldA))] [(0, .cell (wA (if payOk p then (List.replicate (max (min n 30) 0).toNat p).foldl calmF w else w))), (1, .arr (if payOk p then (List.replicate (max (min n 30) 0).toNat p).foldl calmF w else w).nodes)]) ?_ ?_
    · refine aC rfl (fun h2 => ?_) (fun h2 => ?_)
      · rw [if_pos h2]
        refine aS (aR ?_)
        refine oC (oM rfl (Conv.of rfl) rfl) ?_
        refine oC (oL fb41 (.cons rfl (Conv.of rfl) (.cons rfl (Conv.of rfl) (.nil _))) (hnc) (aK rfl rfl (aK rfl rfl aK0)) rfl rfl) ?_
        refine oC (op_min rfl rfl rfl) ?_
        refine oC (op_max rfl rfl rfl) ?_
        refine oC (oM rfl (Conv.of rfl) rfl) ?_
        refine oN ?_
        generalize hm : max (min n 30) 0 = m
        refine aB ?_
        refine awp_loop' (fun n_ s => ∃ (k : Nat), ∃ (hk : n_ + k = m.toNat), s = mkSt 98 [(0, .box 0 (IsLens.whole WrldA)), (8, .box 2 (IsLens.whole Pay)), (73, .v m), (74, .v (k : Int))] [(0, .cell (wA ((List.replicate k p).foldl calmF w))), (1, .arr ((List.replicate k p).foldl calmF w).nodes), (2, .cell p)]) (m.toNat) ⟨0, by omega, rfl⟩ (Le.mk rfl (tlb rfl rfl rfl (tlb rfl rfl rfl (tle rfl (rfl) rfl (tle rfl (rfl) rfl tln)))) (olk (by rfl) (by exact obOkW rfl) (olk (by rfl) (by exact bA) (olk rfl (by exact bC) oln))) (hU (a := wo w) rfl)) ?_
        rintro n_ s ⟨k, hk, rfl⟩
        have hfk := calmFold_ok (List.replicate k p) hw
        refine aS (aR ?_)
        refine oC (oLt rfl rfl rfl) ?_
        refine oN ?_
        refine aS (aC rfl (fun h3 => ?_) (fun h3 => ?_))
        · have hlt : (k : Int) < m := of_decide_eq_true h3
          refine aW ?_
          refine aS (aB ?_)
          refine aR ?_
          refine oC (oM rfl (Conv.of rfl) rfl) ?_
          refine oC (oD ty61 rfl rfl rfl) ?_
          refine oC (oLO fb48 (.cons rfl (Conv.of rfl) (.cons rfl (Conv.of rfl) (.nil _))) (calm_ct _ p hfk.fine) (olsk rfl (olsk rfl ols0)) (kK (by exact obOkW rfl) (kK (by exact bA) k0)) (kK (by exact obOkW rfl) (kK (by exact bA) k0)) rfl (argOb rfl rfl rfl (argOk' rfl rfl argO0)) (fun o ho => by cases ho) rfl) ?_
          refine oN ?_
          refine aR ?_
          refine oC (oP rfl rfl rfl (by omega)) ?_
          refine oC (oM rfl (Conv.of rfl) rfl) ?_
          refine oN ?_
          repeat first | refine nS ?_ | refine nB ?_
          exact ⟨n_ - 1, _, by omega, ⟨k + 1, by omega, rfl⟩, Le.mk rfl (tlb rfl rfl rfl (tlb rfl rfl rfl (tle rfl (rfl) rfl (tle rfl (rfl) rfl tln)))) (olk (by (first | rfl | (rw [rep_fold]; rfl))) (by exact obOkW rfl) (olk (by (first | rfl | (rw [rep_fold]; rfl))) (by exact bA) (olk rfl (by exact bC) oln))) (hU (a := wo w) rfl)⟩
        · refine aE ?_
          repeat refine ex_seq ?_
          refine eB ?_
          have hge : ¬ (k : Int) < m := of_decide_eq_false h3
          have hkm : k = m.toNat := by omega
          subst hkm
          all_goals exact Le.mk rfl (tlb rfl rfl rfl tln) (olk rfl (by exact obOkW rfl) (olk rfl (by exact bA) oln)) (hU (a := wo w) rfl)
      · rw [if_neg (by rw [h2]; decide)]
        refine aW ?_
        all_goals exact Le.mk rfl (tlb rfl rfl rfl tln) (olk rfl (by exact obOkW rfl) (olk rfl (by exact bA) oln)) (hU (a := wo w) rfl)
    refine aS (aR ?_)
    refine oC (oA rfl (Conv.of rfl) rfl) ?_
    refine oN ?_
    refine aT ?_
    repeat first | refine rS ?_ | refine rB ?_
    refine ⟨_, _, res1 (ol := wo (if payOk p then (List.replicate (max (min n 30) 0).toNat p).foldl calmF w else w)) (.v rfl (Conv.of rfl)) (fun o ho => by cases ho) (olk rfl (obOkW rfl) (olk rfl bA oln)) (hK rfl), rfl, rfl⟩
  rw [if_neg (of_decide_eq_false h)]
  refine aS (aR ?_)
  refine oC (op_eqls rfl rfl rfl) ?_
  refine oC (oA rfl (Conv.of rfl) rfl) ?_
  refine oN ?_
  refine aC rfl (fun h => ?_) (fun h => ?_)
  · rw [if_pos (of_decide_eq_true h)]
    have hnc := number_ct ws 1
    generalize numF (wordF ws 1) = n at hnc ⊢
    refine aS (aS (aR ?_))
    refine oC (oM rfl (Conv.of rfl) rfl) ?_
    refine oC (oL fb41 (.cons rfl (Conv.of rfl) (.cons rfl (Conv.of rfl) (.nil _))) (hnc) (aK rfl rfl (aK rfl rfl aK0)) rfl rfl) ?_
    refine oC (oA rfl (Conv.of rfl) rfl) ?_
    refine oN ?_
    refine aS (aR ?_)
    refine oC (oM rfl (Conv.of rfl) rfl) ?_
    refine oC (oL fb49 (.cons rfl (Conv.of rfl) (.nil _)) (nodeIdOk_ct n) (aK rfl rfl aK0) rfl rfl) ?_
    refine oN ?_
    refine aC rfl (fun h2 => ?_) (fun h2 => ?_)
    · have hid : 1 ≤ n ∧ n ≤ 4 := by simpa [within] using h2
      have hxn : w.nodes[(n - 1).toNat]? = some (w.nodes.getD (n - 1).toNat .zero) := by
        rw [List.getD_eq_getElem?_getD, List.getElem?_eq_getElem (by omega)]; rfl
      rw [if_pos h2]
      refine aS (aR ?_)
      refine oC (oM rfl (Conv.of rfl) rfl) ?_
      refine oC (oM rfl (Conv.of rfl) rfl) ?_
      refine oC (oLO fb26 (.cons rfl (Conv.of rfl) (.cons rfl (Conv.of rfl) (.nil _))) (status_ct w hw n hid _ hxn) (olsk rfl (olsk rfl ols0)) (kK (by exact obOkW rfl) (kK (by exact bA) k0)) (kK (by exact obOkW rfl) (kK (by exact bA) k0)) rfl (argOb rfl rfl rfl (argOk' rfl rfl argO0)) (fun o ho => by cases ho) rfl) ?_
      refine oC (oA rfl (Conv.of rfl) rfl) ?_
      refine oN ?_
      refine aT ?_
      repeat first | refine rS ?_ | refine rB ?_
      refine ⟨_, _, res1 (ol := wo w) (.v rfl (Conv.of rfl)) (fun o ho => by cases ho) (olk rfl (obOkW rfl) (olk rfl bA oln)) (hK rfl), rfl, rfl⟩
    · rw [if_neg (by rw [h2]; decide)]
      refine aW ?_
      refine aS (aR ?_)
      refine oC (oA rfl (Conv.of rfl) rfl) ?_
      refine oN ?_
      refine aT ?_
      repeat first | refine rS ?_ | refine rB ?_
      refine ⟨_, _, res1 (ol := wo w) (.v rfl (Conv.of rfl)) (fun o ho => by cases ho) (olk rfl (obOkW rfl) (olk rfl bA oln)) (hK rfl), rfl, rfl⟩
  rw [if_neg (of_decide_eq_false h)]
  refine aS (aR ?_)
  refine oC (op_eqls rfl rfl rfl) ?_
  refine oC (oA rfl (Conv.of rfl) rfl) ?_
  refine oN ?_
  refine aC rfl (fun h => ?_) (fun h => ?_)
  · rw [if_pos (of_decide_eq_true h)]
    have hdl := decI_len (w.log.length : Int)
    refine aS (aR ?_)
    refine oC (oM rfl (Conv.of rfl) rfl) ?_
    refine oC (oNB rfl rfl) ?_
    refine oC (oF f38_2_WrldA rfl rfl) ?_
    refine oC (oD ty36 rfl rfl rfl) ?_
    refine oC (oE sl36 rfl rfl) ?_
    refine oC (oL fb50 (.cons rfl (Conv.of rfl) (.nil _)) (itoaI (by show 0 ≤ (w.log.length : Int) ∧ (w.log.length : Int) < 100; omega)) (aK rfl rfl aK0) rfl rfl) ?_
    refine oC (op_adds rfl rfl rfl (by (simp; omega))) ?_
    refine oC (oA rfl (Conv.of rfl) rfl) ?_
    refine oN ?_
    refine aT ?_
    repeat first | refine rS ?_ | refine rB ?_
    refine ⟨_, _, res1 (ol := wo w) (.v rfl (Conv.of rfl)) (fun o ho => by cases ho) (olk rfl (obOkW rfl) (olk rfl bA oln)) (hK rfl), rfl, rfl⟩
  rw [if_neg (of_decide_eq_false h)]
  refine aS (aR ?_)
  refine oC (oA rfl (Conv.of rfl) rfl) ?_
  refine oN ?_
  refine aT ?_
  repeat first | refine rS ?_ | refine rB ?_
  refine ⟨_, _, res1 (ol := wo w) (.v rfl (Conv.of rfl)) (fun o ho => by cases ho) (olk rfl (obOkW rfl) (olk rfl bA oln)) (hK rfl), rfl, rfl⟩
end Go.Proofs.YtgfoeiieopnlaaaGreatDoor

/- Drawn lines. -/
set_option linter.unusedVariables false
set_option linter.unusedSimpArgs false
namespace Go.Proofs.YtgfoeiieopnlaaaGreatDoor
open Go Go.Wt
theorem of_ct (r : Rd) (ws : List (List UInt8)) (hp : Far 900000 r) (h0 : 0 < ws.length) (h1 : ws.length ≤ 1000) : CtO Tryz.prog 34 [.box 0 (IsLens.whole Rd), .v (ws.map bs)] [(0, .cell r)] (.v (bs (wordF ws (pk r (ws.length : Int)).toNat))) [(0, .cell (nx r 1))] := by
  have b0 := pk_bd hp (by omega) (ws.length : Int)
  have c0 := b0.2 (by omega)
  have hlm : ((ws.map bs).length : Int) = (ws.length : Int) := by simp
  have hx : (ws.map bs)[(pk r (ws.length : Int)).toNat]? = some (bs (wordF ws (pk r (ws.length : Int)).toNat)) := words_at (by omega)
  have hpc := pick_ct r (ws.length : Int) (by unfold Far at hp; omega)
  rw [← hlm] at hpc hx b0 ⊢
  refine Ct.intro Tryz.func34 rfl rfl ?_
  refine aS (aR ?_)
  refine oC (oA rfl (Conv.of rfl) rfl) ?_
  refine oN ?_
  refine aS (aR ?_)
  refine oC (oM rfl (Conv.of rfl) rfl) ?_
  refine oC (oM rfl (Conv.of rfl) rfl) ?_
  refine oC (oM rfl (Conv.of rfl) rfl) ?_
  refine oC (oE sl29 rfl rfl) ?_
  refine oC (oLO fb18 (.cons rfl (Conv.of rfl) (.cons rfl (Conv.of rfl) (.nil _))) (hpc) (olsk rfl ols0) (kK (by exact bC) k0) (kK (by exact bC) k0) rfl (argOb rfl rfl rfl (argOk' rfl rfl argO0)) (fun o ho => by cases ho) rfl) ?_
  refine oC (op_ix sl29 rfl rfl rfl b0.1 hx) ?_
  refine oC (oDR ty9 rfl rfl) ?_
  refine oC (oA rfl (Conv.of rfl) rfl) ?_
  refine oN ?_
  refine aT ?_
  repeat first | refine rS ?_ | refine rB ?_
  refine ⟨_, _, res1 (ol := [(0, .cell (nx r 1))]) (.v rfl (Conv.of rfl)) (fun o ho => by cases ho) (olk rfl bC oln) (hK rfl), rfl, rfl⟩
end Go.Proofs.YtgfoeiieopnlaaaGreatDoor

/- A builder of strings in blocks of its own, beside an abstract state. -/
set_option linter.unusedVariables false
set_option linter.unusedSimpArgs false
namespace Go.Wt
open Go

section app
variable {P : Program}
theorem bs_cells (l : List UInt8) : Lib.strCells (bs l) = Lib.byteCells l := rfl
/-- Bytes behind what is owned: where they lie. -/
theorem run_app_bd (w : World) (t u ty e : TypeId) (i : TypeInfo) (ht : P.underlying t = some (.slice e)) (hu : P.underlying u = some .string) (hi : P.info? e = some i) (hz : i.zero = some (.int .u8 0)) (hsize : i.size = 1) (hby : i.bytes = 1)
    (lo : Nat) (v : Value) (l s : List UInt8) (hown : w.ownsRow lo e 1 v l.length (Lib.byteCells l)) (hb : l.length + s.length ≤ 140737488355328) (hlo : lo ≤ w.heap.size) :
    ∃ v' w', (Builtin.append_ #[t, u] ty #[v, .string (bs s)]).run P w = .ok v' w' ∧ w'.ownsRow lo e 1 v' (l ++ s).length (Lib.byteCells (l ++ s)) ∧ w.grownBy w' v.ownBlock ∧
      (v' = .slice none 0 0 ↔ v = .slice none 0 0 ∧ s.length = 0) ∧
      ((∀ g, v'.ownBlock = some g → w.heap.size ≤ g) ∨ (v'.ownBlock = v.ownBlock ∧ ∀ g j, v.ownBlock = some g → (cl w' g j).isSome = true → (cl w g j).isSome = true)) := by
  have hs : (bs s).size = s.length := bs_size s
  obtain ⟨v', w', h1, h2, h3, h4⟩ := Lib.run_append_own_string (P := P) w lo t u ty e i ht hu hi hz hsize hby v l.length _ hown (bs s) (by rw [hs]; unfold maxLen; omega) (by rw [hs]; omega) hlo
  rw [hs, bs_cells] at h2
  rw [hs] at h4
  refine ⟨v', w', h1, by rw [List.length_append, Lib.byteCells_append]; exact h2, h3, h4, ?_⟩
  rcases hown.2 with ⟨rfl, h0⟩ | ⟨g, cap, cur, rfl, hbg, hg, hnc, hcm, hcs, htake⟩
  · left
    obtain ⟨v2, w2, k1, k2, _⟩ := Lib.run_append_own_string (P := P) w w.heap.size t u ty e i ht hu hi hz hsize hby (.slice none 0 0) l.length _ ⟨hown.1, .inl ⟨rfl, h0⟩⟩ (bs s) (by rw [hs]; unfold maxLen; omega) (by rw [hs]; omega) (Nat.le_refl _)
    rw [h1] at k1
    injection k1 with e1 e2
    subst e1
    subst e2
    intro g hg
    rcases k2.2 with ⟨rfl, _⟩ | ⟨g', cap, cur, rfl, hbg, _⟩
    · simp [Value.ownBlock] at hg
    · simp [Value.ownBlock] at hg; omega
  · by_cases hroom : l.length + s.length ≤ cap
    · right
      have hr := Lib.run_append_room_string (P := P) w t u ty e i ht hu hi hsize g l.length cap cur hg (bs s) (by rw [hs]; exact hroom) (by rw [hs]; omega)
      rw [h1] at hr
      injection hr with e1 e2
      subst e1
      subst e2
      refine ⟨rfl, fun g' j hg' hj => ?_⟩
      simp only [Value.ownBlock, Option.some.injEq] at hg'
      subst hg'
      simp only [World.cell?, setRow_heap w g cur _ e _ hg, hg] at hj ⊢
      simp [hs, Lib.strCells_length] at hj ⊢
      omega
    · left
      have hr := Lib.run_append_grow_string (P := P) w t u ty e i _ ht hu hi hz ⟨g, 0, none⟩ l.length cap (Lib.byteCells l) (by rw [hsize, Nat.mul_one, Lib.byteCells_length]) (fun j x hj => by
        have hjl : j < l.length := by rw [← Lib.byteCells_length l]; exact getElem?_lt hj
        rw [← htake] at hj
        rw [List.getElem?_take, if_pos (by omega)] at hj
        rw [add_lit, Nat.zero_add]
        simp only [World.cell?, hg]
        simpa using hj) (bs s) (by rw [hs]; omega) (by rw [hs]; omega) (by
          rw [hby, Nat.mul_one, hs]
          have := growslice_fits (bytes := 1) (show cap < l.length + s.length by omega) (by omega)
          omega)
      rw [h1] at hr
      injection hr with e1 e2
      subst e1
      intro g' hg'
      simp only [Value.ownBlock, Option.some.injEq] at hg'
      omega
end app

/-- The builder's blocks, and whose they are. -/
structure Bd (T e : TypeId) (lo : Nat) (G : Gh) (w : World) (b : Nat) (l : List UInt8) : Prop where
  is : Lib.IsBuilder T e lo b (Lib.byteCells l) w
  nl : l = [] → cl w b 1 = some (.slice none 0 0)
  ob : ∀ i v, cl w b i = some v → ∃ π, G.own b i = some (.ext, π)
  og : ∀ v g, cl w b 1 = some v → v.ownBlock = some g → ∀ i u, cl w g i = some u → ∃ π, G.own g i = some (.ext, π)
theorem isB_of {T e : TypeId} {lo b : Nat} {xs : List Value} {w w' : World} (h : Lib.IsBuilder T e lo b xs w) (hb : w'.heap[b]? = w.heap[b]?) (hg : ∀ v g, cl w b 1 = some v → v.ownBlock = some g → w'.heap[g]? = w.heap[g]?) : Lib.IsBuilder T e lo b xs w' := by
  have key : ∀ p, Lib.BuilderAt T e lo b p xs w → Lib.BuilderAt T e lo b p xs w' := by
    rintro p ⟨h1, v, h2, h3, h4⟩
    refine ⟨h1, v, hb.trans h2, ⟨h3.1, ?_⟩, h4⟩
    rcases h3.2 with h5 | ⟨g, cap, cur, rfl, h6, h7, h8⟩
    · exact .inl h5
    · refine .inr ⟨g, cap, cur, rfl, h6, ?_, h8⟩
      exact (hg (.slice (some ⟨g, 0, none⟩) xs.length cap) g (by simp [World.cell?, h2]) rfl).trans h7
  exact h.imp (key _) (key _)
section bd
variable {T e : TypeId} {lo b : Nat} {G : Gh} {w : World} {l : List UInt8}
theorem isB_parts (h : Lib.IsBuilder T e lo b (Lib.byteCells l) w) : ∃ p v, (p = .pointer none ∨ p = .pointer (some ⟨b, 0, none⟩)) ∧ lo ≤ b ∧ w.heap[b]? = some (.cells #[p, v] T (0, 0)) ∧ w.ownsRow lo e 1 v l.length (Lib.byteCells l) ∧ v.ownBlock ≠ some b := by
  rcases h with ⟨h1, v, h2, h3, h4⟩ | ⟨h1, v, h2, h3, h4⟩
  · rw [Lib.byteCells_length] at h3; exact ⟨_, v, .inl rfl, h1, h2, h3, h4⟩
  · rw [Lib.byteCells_length] at h3; exact ⟨_, v, .inr rfl, h1, h2, h3, h4⟩
theorem Bd.row (h : Bd T e lo G w b l) {v : Value} {g : Nat} (hv : cl w b 1 = some v) (hg : v.ownBlock = some g) : lo ≤ g ∧ ∃ cur : Array Value, w.heap[g]? = some (.cells cur e (0, 0)) ∧ 0 < cur.size := by
  obtain ⟨p, v', h0, h1, h2, h3, h4⟩ := isB_parts h.is
  have hv' : v' = v := by
    have : cl w b 1 = some v' := by simp [World.cell?, h2]
    rw [hv] at this; injection this with this; exact this.symm
  subst hv'
  rcases h3.2 with ⟨rfl, _⟩ | ⟨g', cap, cur, rfl, h6, h7, h8, h9, h10, h11⟩
  · simp [Value.ownBlock] at hg
  · simp only [Value.ownBlock, Option.some.injEq] at hg
    subst hg
    refine ⟨h6, cur, h7, ?_⟩
    by_cases hl : l = []
    · have := h.nl hl
      rw [hv] at this
      cases this
    · have : 0 < l.length := List.length_pos_iff.2 hl
      omega
theorem Bd.blk (h : Bd T e lo G w b l) : ∃ p v, w.heap[b]? = some (.cells #[p, v] T (0, 0)) := by
  obtain ⟨p, v, _, _, h2, _⟩ := isB_parts h.is
  exact ⟨p, v, h2⟩
theorem Bd.lob (h : Bd T e lo G w b l) : lo ≤ b := by
  obtain ⟨p, v, _, h1, _⟩ := isB_parts h.is
  exact h1
/-- What leaves what isn't its own leaves the builder. -/
theorem Bd.keep {S : Nat → Prop} {G' : Gh} {w' : World} (h : Bd T e lo G w b l) (k : Keep S G w G' w') : Bd T e lo G' w' b l := by
  obtain ⟨p, v, hb⟩ := h.blk
  have eb : w'.heap[b]? = w.heap[b]? := k.block b (lt_of_heap hb) fun i u hu => .inr (h.ob i u hu)
  have eg : ∀ v g, cl w b 1 = some v → v.ownBlock = some g → w'.heap[g]? = w.heap[g]? := fun v g h1 h2 => by
    obtain ⟨_, cur, h3, _⟩ := h.row h1 h2
    exact k.block g (lt_of_heap h3) fun i u hu => .inr (h.og v g h1 h2 i u hu)
  have ec : ∀ i, cl w' b i = cl w b i := cl_of_block eb
  refine ⟨isB_of h.is eb eg, fun hl => by rw [ec]; exact h.nl hl, fun i u hu => ?_, fun v g h1 h2 i u hu => ?_⟩
  · rw [ec] at hu
    rw [(k.cell b i u (.inr (h.ob i u hu)) hu).1]
    exact h.ob i u hu
  · rw [ec] at h1
    have hu' : cl w g i = some u := by rw [← cl_of_block (eg v g h1 h2)]; exact hu
    rw [(k.cell g i u (.inr (h.og v g h1 h2 i u hu')) hu').1]
    exact h.og v g h1 h2 i u hu'

/-- Only the builder's blocks turn. -/
structure BdFr (w : World) (b : Nat) (w' : World) : Prop where
  os : w'.os = w.os
  tape : w'.tape = w.tape
  output : w'.output = w.output
  size : w.heap.size ≤ w'.heap.size
  block : ∀ k, k < w.heap.size → k ≠ b → (∀ v, cl w b 1 = some v → v.ownBlock ≠ some k) → w'.heap[k]? = w.heap[k]?
def Gh.up (G : Gh) (n : Nat) : Gh := ⟨fun b i => if n ≤ b then some (.ext, []) else G.own b i, G.hdr⟩
theorem Gh.up_lt {G : Gh} {n k i : Nat} (h : k < n) : (G.up n).own k i = G.own k i := if_neg (by omega)
theorem Bd.same {w' : World} (h : Bd T e lo G w b l) (f : BdFr w b w') {k i : Nat} {v : Value} (hc : cl w k i = some v) (hne : ∀ π, G.own k i ≠ some (.ext, π)) : w'.heap[k]? = w.heap[k]? ∧ k < w.heap.size := by
  refine ⟨f.block k (lt_of_cl hc) ?_ ?_, lt_of_cl hc⟩
  · rintro rfl
    obtain ⟨π, e⟩ := h.ob i v hc
    exact hne π e
  · intro u hu hk
    obtain ⟨π, e⟩ := h.og u k hu hk i v hc
    exact hne π e
theorem Bd.sh {w' : World} (h : Bd T e lo G w b l) (f : BdFr w b w') : Sh G w (G.up w.heap.size) w' := fun k i v h1 h2 => by
  obtain ⟨e1, e2⟩ := h.same f h2 (by rw [h1]; simp)
  exact ⟨by rw [Gh.up_lt e2]; exact h1, by rw [cl_of_block e1]; exact h2⟩
theorem Bd.ow {w' : World} (h : Bd T e lo G w b l) (f : BdFr w b w') {ω : Owner} (hω : ω.1 ≠ .ext) : Ow G w ω (G.up w.heap.size) w' ω never := fun k i π v _ h1 h2 => by
  obtain ⟨e1, e2⟩ := h.same f h2 (by rw [h1]; intro ρ he; injection he with he; exact hω (congrArg Prod.fst he))
  exact ⟨by rw [Gh.up_lt e2]; exact h1, by rw [cl_of_block e1]; exact h2, fun hf => by rw [fz_of_block e1]; exact hf⟩
theorem RelSt.bd {w' : World} {a : Act} {st : St} (hr : RelSt G w a st) (h : Bd T e lo G w b l) (f : BdFr w b w') : RelSt (G.up w.heap.size) w' a st where
  defers := hr.defers
  size := hr.size
  tmps := fun t => (hr.tmps t).mono (h.sh f) (h.ow f (by simp)) (fun _ _ _ h => h)
  objs := fun o => by
    have h0 := hr.objs o
    by_cases hfd : st.ob o = .free ∨ st.ob o = .dead
    · rcases hfd with hfd | hfd
      · rw [hfd] at h0 ⊢; exact h0
      · rw [hfd]; trivial
    · obtain ⟨T', hT⟩ := Obj.refs_all (st.ob o)
      refine h0.pres (h.sh f) (fun _ _ _ h => h) hT ⟨rfl, fun k h1 h2 => ⟨f.block k h2 ?_ ?_, fun i hi => by rw [Gh.up_lt h2]; exact hi⟩, h.ow f (by simp)⟩
      · rintro rfl
        obtain ⟨p, v, hb⟩ := h.blk
        have h3 := h0.blk_own ⟨fun e => hfd (.inl e), fun e => hfd (.inr e)⟩ h1 hb (by simp)
        obtain ⟨π, e⟩ := h.ob 0 p (by simp [World.cell?, hb])
        rw [h3] at e
        simp at e
      · intro v hv hk
        obtain ⟨_, cur, hg, hp⟩ := h.row hv hk
        have h3 := h0.blk_own ⟨fun e => hfd (.inl e), fun e => hfd (.inr e)⟩ h1 hg hp
        obtain ⟨π, e⟩ := h.og v k hv hk 0 cur[0] (by simp [World.cell?, hg, hp])
        rw [h3] at e
        simp at e
theorem Keep.bd {S : Nat → Prop} {G0 : Gh} {w0 w' : World} (k : Keep S G0 w0 G w) (h : Bd T e w0.heap.size G w b l) (f : BdFr w b w') : Keep S G0 w0 (G.up w.heap.size) w' := by
  have hs : ∀ j, j < w0.heap.size → w'.heap[j]? = w.heap[j]? := fun j hj => by
    have := k.size
    refine f.block j (by omega) ?_ ?_
    · have := h.lob; omega
    · intro v hv hk
      have := (h.row hv hk).1
      omega
  refine ⟨f.os.trans k.os, f.tape.trans k.tape, f.output.trans k.output, Nat.le_trans k.size f.size, fun j i v ho hc => ?_, fun j hj ho => ?_, k.hdr⟩
  · have hj := lt_of_cl hc
    have hks := k.size
    obtain ⟨a1, a2, a3⟩ := k.cell j i v ho hc
    exact ⟨by rw [Gh.up_lt (by omega)]; exact a1, by rw [cl_of_block (hs j hj)]; exact a2, by rw [fz_of_block (hs j hj)]; exact a3⟩
  · rw [hs j hj]
    exact k.block j hj ho
/-- Behind a write. -/
theorem Bd.wrote {w' : World} {s : List UInt8} (h : Bd T e lo G w b l) (f : BdFr w b w') (his : Lib.IsBuilder T e lo b (Lib.byteCells (l ++ s)) w') (hnl : l ++ s = [] → cl w' b 1 = some (.slice none 0 0))
    (hnew : ∀ v' g, cl w' b 1 = some v' → v'.ownBlock = some g → w.heap.size ≤ g ∨ ∃ v, cl w b 1 = some v ∧ v.ownBlock = some g ∧ ∀ j, (cl w' g j).isSome = true → (cl w g j).isSome = true) : Bd T e lo (G.up w.heap.size) w' b (l ++ s) := by
  obtain ⟨p, v, hb⟩ := h.blk
  have hlt := lt_of_heap hb
  obtain ⟨p', v', _, _, hb', _⟩ := isB_parts his
  refine ⟨his, hnl, fun i u hu => ?_, fun u g h1 h2 i x hx => ?_⟩
  · rw [Gh.up_lt hlt]
    have hi : i < 2 := by
      simp only [World.cell?, hb'] at hu
      rcases Nat.lt_or_ge i 2 with h | h
      · exact h
      · simp [Array.getElem?_eq_none (show (#[p', v'] : Array Value).size ≤ i by simpa using h)] at hu
    obtain ⟨y, hy⟩ : ∃ y, cl w b i = some y := by
      simp only [World.cell?, hb]
      rcases (by omega : i = 0 ∨ i = 1) with rfl | rfl
      · exact ⟨p, rfl⟩
      · exact ⟨v, rfl⟩
    exact h.ob i y hy
  · rcases hnew u g h1 h2 with h3 | ⟨y, h3, h4, h5⟩
    · exact ⟨[], if_pos h3⟩
    · obtain ⟨z, hz⟩ := Option.isSome_iff_exists.1 (h5 i (by rw [hx]; rfl))
      rw [Gh.up_lt (lt_of_cl hz)]
      exact h.og y g h3 h4 i z hz
end bd

/-! ### Code beside a builder -/
structure XC where
  P : Program
  T : TypeId
  e : TypeId
  oB : Nat
  G0 : Gh
  w0 : World
abbrev s0 : Nat → Prop := fun o => noObj o ≠ .free
abbrev XC.S (x : XC) : Nat → Prop := fun o => o = x.oB
def XB (x : XC) (G : Gh) (w : World) : Option (List UInt8) → Prop
  | none => True
  | some l => ∃ b, G.hdr x.oB = some (.pointer (some ⟨b, 0, none⟩)) ∧ Bd x.T x.e x.w0.heap.size G w b l
structure XR (x : XC) (st : St) (m : Option (List UInt8)) (G : Gh) (w : World) (a : Act) : Prop where
  rel : RelSt G w a st
  keep : Keep s0 x.G0 x.w0 G w
  bd : XB x G w m
theorem Keep.s0 {S : Nat → Prop} {G w G' w'} (k : Keep S G w G' w') : Keep Wt.s0 G w G' w' := ⟨k.os, k.tape, k.output, k.size, k.cell, k.block, fun o v hS => absurd rfl hS⟩
variable {x : XC} {ops : Array Oper} {st : St} {m : Option (List UInt8)}
theorem XR.step {G w a} (h : XR x st m G w a) {G' w' a' st'} (hr : RelSt G' w' a' st') (k : Keep x.S G w G' w') : XR x st' m G' w' a' := by
  refine ⟨hr, h.keep.trans k.s0, ?_⟩
  have := h.bd
  cases m with
  | none => trivial
  | some l =>
    obtain ⟨b, h1, h2⟩ := this
    exact ⟨b, k.hdr _ _ rfl h1, h2.keep k⟩
def xOps (x : XC) (ops : Array Oper) (l : List Oper) (Q : St → Option (List UInt8) → Prop) (st : St) (m : Option (List UInt8)) : Prop :=
  ∀ G w a, XR x st m G w a → ∀ Q', (∀ a' w' G' st' m', XR x st' m' G' w' a' → Q st' m' → Q' .normal a' w') → wpList x.P ops Q' l a w
def xwp (x : XC) (c : Code) (Q : Exit → St → Option (List UInt8) → Prop) (st : St) (m : Option (List UInt8)) : Prop :=
  ∀ G w a, XR x st m G w a → c.wp x.P (fun e a' w' => ∃ st' m' G', XR x st' m' G' w' a' ∧ Q e st' m') a w
theorem xOps_nil {Q : St → Option (List UInt8) → Prop} (h : Q st m) : xOps x ops [] Q st m := fun G w a hr Q' hQ => hQ a w G st m hr h
theorem xOps_cons {l : List Oper} {Q : St → Option (List UInt8) → Prop} {o : Oper} {rt ro wt wo} (h : OpOk x.P x.S ops o rt ro wt wo st) (k : xOps x ops l Q (st.upd wt wo) m) : xOps x ops (o :: l) Q st m := by
  intro G w a hr Q' hQ
  refine stepO_cons (h st (Agree.refl _ _ _) G w a hr.rel _ _ fun a' w' G' hr' hk => ?_)
  exact k G' w' a' (hr.step hr' hk) Q' hQ
section code
variable {Q : Exit → St → Option (List UInt8) → Prop}
theorem x_mono {c : Code} {Q' : Exit → St → Option (List UInt8) → Prop} (h : xwp x c Q st m) (hq : ∀ e s m, Q e s m → Q' e s m) : xwp x c Q' st m := fun G w a hr =>
  wp_mono (h G w a hr) fun e a' w' ⟨st', m', G', h1, h2⟩ => ⟨st', m', G', h1, hq _ _ _ h2⟩
theorem x_region {id : Nat} {l : List Oper} (h : xOps x l.toArray l (fun s m => Q .normal s m) st m) : xwp x (.region id l.toArray false) Q st m := fun G w a hr =>
  wp_region_lit (h G w a hr _ fun a' w' G' st' m' h1 h2 => ⟨st', m', G', h1, h2⟩)
theorem x_skip (h : Q .normal st m) : xwp x .skip Q st m := fun G w a hr => wp_skip ⟨st, m, G, hr, h⟩
theorem x_ret (h : Q .ret st m) : xwp x .ret Q st m := fun G w a hr => wp_ret ⟨st, m, G, hr, h⟩
theorem x_exit {id : Nat} (h : Q (.exit id) st m) : xwp x (.exit id) Q st m := fun G w a hr => wp_exit ⟨st, m, G, hr, h⟩
def xthen (K : St → Option (List UInt8) → Prop) (Q : Exit → St → Option (List UInt8) → Prop) : Exit → St → Option (List UInt8) → Prop
  | .normal, s, m => K s m
  | e, s, m => Q e s m
theorem x_seq {c d : Code} (h : xwp x c (xthen (xwp x d Q) Q) st m) : xwp x (.seq c d) Q st m := fun G w a hr => by
  refine wp_seq (wp_mono (h G w a hr) ?_)
  rintro e a' w' ⟨st', m', G', h1, h3⟩
  have key : ∀ e, e ≠ .normal → Q e st' m' → (∃ st' m' G', XR x st' m' G' w' a' ∧ Q e st' m') := fun e _ h => ⟨st', m', G', h1, h⟩
  cases e with
  | normal => exact h3 G' w' a' h1
  | exit id => exact key _ (by simp) h3
  | goto l => exact key _ (by simp) h3
  | ret => exact key _ (by simp) h3
  | panic ch => exact key _ (by simp) h3
  | outgrown => exact key _ (by simp) h3
theorem x_cond {c : Operand} {d f : Code} {t : Bool} (hc : st.ev c = some (.v t)) (h1 : t = true → xwp x d Q st m) (h2 : t = false → xwp x f Q st m) : xwp x (.cond c d f) Q st m := fun G w a hr => by
  have := hr.rel.ev c
  rw [hc] at this
  obtain ⟨cs, e1, e2⟩ := this
  have e3 : a.eval c = .bool t := by rw [e2, show cs = [.bool t] from e1]; rfl
  refine wp_cond e3 ?_
  cases t with
  | true => exact h1 rfl G w a hr
  | false => exact h2 rfl G w a hr
def xblock (id : Nat) (Q : Exit → St → Option (List UInt8) → Prop) : Exit → St → Option (List UInt8) → Prop
  | .exit j, s, m => if j = id then Q .normal s m else Q (.exit j) s m
  | e, s, m => Q e s m
theorem x_block {id : Nat} {c : Code} (h : xwp x c (xblock id Q) st m) : xwp x (.block id c) Q st m := fun G w a hr => by
  refine wp_block (wp_mono (h G w a hr) ?_)
  rintro e a' w' ⟨st', m', G', h1, h3⟩
  cases e with
  | exit j =>
    simp only [xblock] at h3
    simp only [Exit.inBlock]
    by_cases hj : j = id
    · subst hj
      rw [if_pos rfl] at h3
      simp only [if_true]
      exact ⟨st', m', G', h1, h3⟩
    · rw [if_neg hj] at h3
      first
        | (rw [if_neg hj]; exact ⟨st', m', G', h1, h3⟩)
        | (rw [if_neg (Ne.symm hj)]; exact ⟨st', m', G', h1, h3⟩)
  | normal => exact ⟨st', m', G', h1, h3⟩
  | goto l => exact ⟨st', m', G', h1, h3⟩
  | ret => exact ⟨st', m', G', h1, h3⟩
  | panic ch => exact ⟨st', m', G', h1, h3⟩
  | outgrown => exact ⟨st', m', G', h1, h3⟩
theorem x_loop {c : Code} (I : Nat → St → Option (List UInt8) → Prop) (n : Nat) (h0 : ∃ s, Le x.S st s ∧ I n s m)
    (round : ∀ n s m, I n s m → xwp x c (xthen (fun s' m' => ∃ n' s'', n' < n ∧ Le x.S s' s'' ∧ I n' s'' m') Q) s m) : xwp x (.loop c) Q st m := fun G w a hr => by
  obtain ⟨s, hle, hI⟩ := h0
  obtain ⟨G0, hr0, hk0⟩ := hle G w a hr.rel
  refine wp_loop_ghost (fun n a' w' => ∃ s m G', XR x s m G' w' a' ∧ I n s m) n ⟨s, m, G0, hr.step hr0 hk0, hI⟩ ?_
  rintro n a' w' ⟨s', m', G', h1, h3⟩
  refine wp_mono (round n s' m' h3 G' w' a' h1) ?_
  rintro e a'' w'' ⟨s2, m2, G2, k1, k3⟩
  cases e with
  | normal =>
    obtain ⟨n', s3, hlt, hle, hI'⟩ := k3
    obtain ⟨G3, hr3, hk3⟩ := hle G2 w'' a'' k1.rel
    exact ⟨n', hlt, s3, m2, G3, k1.step hr3 hk3, hI'⟩
  | exit id => exact ⟨s2, m2, G2, k1, k3⟩
  | goto l => exact ⟨s2, m2, G2, k1, k3⟩
  | ret => exact ⟨s2, m2, G2, k1, k3⟩
  | panic ch => exact ⟨s2, m2, G2, k1, k3⟩
  | outgrown => exact ⟨s2, m2, G2, k1, k3⟩
end code
section joins
variable {Q : Exit → St → Option (List UInt8) → Prop}
theorem x_loop' {c : Code} (I : Nat → St → Option (List UInt8) → Prop) (n : Nat) {s1 : St} (hI : I n s1 m) (hle : Le x.S st s1)
    (round : ∀ n s m, I n s m → xwp x c (xthen (fun s' m' => ∃ n' s'', n' < n ∧ I n' s'' m' ∧ Le x.S s' s'') Q) s m) : xwp x (.loop c) Q st m :=
  x_loop I n ⟨s1, hle, hI⟩ fun n s m h => x_mono (round n s m h) fun e s' m' q => by
    cases e with
    | normal => obtain ⟨n', s'', h1, h2, h3⟩ := q; exact ⟨n', s'', h1, h3, h2⟩
    | exit id => exact q
    | goto l => exact q
    | ret => exact q
    | panic ch => exact q
    | outgrown => exact q
theorem xn_seq {K : St → Option (List UInt8) → Prop} (h : K st m) : xthen K Q .normal st m := h
theorem xe_seq {id : Nat} {K : St → Option (List UInt8) → Prop} (h : Q (.exit id) st m) : xthen K Q (.exit id) st m := h
theorem xr_seq {K : St → Option (List UInt8) → Prop} (h : Q .ret st m) : xthen K Q .ret st m := h
theorem xn_block {id : Nat} (h : Q .normal st m) : xblock id Q .normal st m := h
theorem xr_block {id : Nat} (h : Q .ret st m) : xblock id Q .ret st m := h
theorem xe_block {id : Nat} (h : Q .normal st m) : xblock id Q (.exit id) st m := by simp [xblock, h]
theorem xe_other {id j : Nat} (hne : Nat.beq j id = false) (h : Q (.exit j) st m) : xblock id Q (.exit j) st m := by
  have : j ≠ id := by intro e; subst e; simp at hne
  simp [xblock, this, h]
theorem xS {ol : List (Nat × Obj)} {o : Nat} (h : keys ol o = true) : ∀ k, (k = o) → keys ol k = true := by rintro _ rfl; exact h
end joins
/-- From the beginning there is no builder. -/
theorem awp_of_x {P : Program} {c : Code} {Q : Exit → St → Prop} (T e : TypeId) (oB : Nat) (h : ∀ G0 w0, xwp ⟨P, T, e, oB, G0, w0⟩ c (fun e s _ => Q e s) st none) : awp P s0 c Q st := fun G w a hr =>
  wp_mono (h G w G w a ⟨hr, Keep.refl _ _ _, trivial⟩) fun e a' w' ⟨st', m', G', h1, h2⟩ => ⟨st', G', h1.rel, h1.keep, h2⟩

/-! ### The builder's operations -/
theorem xOps_new {l : List Oper} {Q : St → Option (List UInt8) → Prop} {d : Nat} {T pos aft} (hz : ∃ i, x.P.info? x.T = some i ∧ i.zero = some (.agg #[.pointer none, .slice none 0 0])) (ho : st.ob x.oB = .free) (hn : Nat.blt d st.n = true)
    (k : xOps x ops l Q (st.upd [(d, some (.box x.oB (IsLens.whole Int)))] [(x.oB, .dead)]) (some [])) : xOps x ops (⟨some d, .alloc x.T, T, pos, aft, none⟩ :: l) Q st none := by
  intro G w a hr Q' hQ
  refine stepO_cons ?_
  unfold stepO
  rw [if_pos (by simp [Region.wanted])]
  refine .inl ?_
  obtain ⟨i, h1, h2⟩ := hz
  have hc : (execOp a.eval ⟨some d, .alloc x.T, T, pos, aft, none⟩).run x.P w = .ok (.value (.pointer (some ⟨w.heap.size, 0, none⟩))) (w.alloc (.cells #[.pointer none, .slice none 0 0] x.T)) := by
    simp only [execOp, Instr.alloc, zeroValue, typeInfo, h1, h2, newVar, newRow, newObj, Sem.run_bind, Sem.run, Sem.run_pure, Result.andThen_ok, program]
    rfl
  unfold Oper.wp
  rw [hc]
  simp only [Oper.upon]
  have hfree : G.hdr x.oB = none := by have := hr.rel.objs x.oB; rw [ho] at this; exact this
  have h3 := hr.rel.newblk (.cells #[.pointer none, .slice none 0 0] x.T) (fun _ => some (.ext, []))
  have h4 := h3.sethdr ho (.pointer (some ⟨w.heap.size, 0, none⟩)) (x := .dead) trivial
  have h5 := h4.put (d := d) (av := some (.box x.oB (IsLens.whole Int))) (u := .pointer (some ⟨w.heap.size, 0, none⟩)) (by simpa using hn) ⟨w.heap.size, by simp [Gh.hd], rfl⟩
  have hk : Keep s0 G w ((G.blk w.heap.size fun _ => some (.ext, [])).hd x.oB (.pointer (some ⟨w.heap.size, 0, none⟩))) (w.alloc (.cells #[.pointer none, .slice none 0 0] x.T)) := (Keep.blk s0).trans (Keep.hd hfree)
  rw [St.upd_upd] at h5
  refine k _ _ _ ⟨h5, hr.keep.trans hk, w.heap.size, by simp [Gh.hd], ?_⟩ Q' hQ
  have hb : (w.alloc (.cells #[.pointer none, .slice none 0 0] x.T)).heap[w.heap.size]? = some (.cells #[.pointer none, .slice none 0 0] x.T (0, 0)) := heap_alloc_eq _ _
  refine ⟨.inl ⟨hr.keep.size, .slice none 0 0, hb, World.ownsRow_nil _ _ _ _, by simp [Value.ownBlock]⟩, fun _ => by simp [World.cell?, hb], fun i v _ => ⟨[], by simp [Gh.hd, Gh.blk]⟩, fun v g h1 h2 => ?_⟩
  simp [World.cell?, hb] at h1
  subst h1
  simp [Value.ownBlock] at h2
/-- What a write is known to do. -/
def WrOk (P : Program) (T e : TypeId) (f : FuncId) : Prop := ∀ (lo b : Nat) (l s : List UInt8) (w : World), Lib.IsBuilder T e lo b (Lib.byteCells l) w → (l = [] → cl w b 1 = some (.slice none 0 0)) → lo ≤ w.heap.size → l.length + s.length ≤ 140737488355328 →
  Calls P f #[.pointer (some ⟨b, 0, none⟩), .string (bs s)] w fun r w' => (∃ v, r = .returned v) ∧ BdFr w b w' ∧ Lib.IsBuilder T e lo b (Lib.byteCells (l ++ s)) w' ∧ (l ++ s = [] → cl w' b 1 = some (.slice none 0 0)) ∧
    ∀ v' g, cl w' b 1 = some v' → v'.ownBlock = some g → w.heap.size ≤ g ∨ ∃ v, cl w b 1 = some v ∧ v.ownBlock = some g ∧ ∀ j, (cl w' g j).isSome = true → (cl w g j).isSome = true
/-- What a reading is known to do. -/
def RdOk (P : Program) (T e : TypeId) (f : FuncId) : Prop := ∀ (lo b : Nat) (l : List UInt8) (w : World), Lib.IsBuilder T e lo b (Lib.byteCells l) w → l ≠ [] →
  Calls P f #[.pointer (some ⟨b, 0, none⟩)] w fun r w' => r = .returned (.string (bs l)) ∧ BdFr w b w'
theorem xOps_write {l : List Oper} {Q : St → Option (List UInt8) → Prop} {d t : Nat} {y : Operand} {T pos aft} {f : FuncId} {ts : Array TypeId} {q s : List UInt8} (hw : WrOk x.P x.T x.e f) (hf : fnB x.P f = true)
    (hx : st.tm t = some (.box x.oB (IsLens.whole Int))) (hy : st.ev y = some (.v (bs s))) (hlen : q.length + s.length ≤ 140737488355328) (hn : Nat.blt d st.n = true) (k : xOps x ops l Q (st.upd [(d, none)] []) (some (q ++ s))) :
    xOps x ops (⟨some d, .call { callee := .value (.func f), args := #[.tmp t, y], argTypes := ts }, T, pos, aft, none⟩ :: l) Q st (some q) := by
  intro G w a hr Q' hQ
  refine stepO_cons ?_
  unfold stepO
  rw [if_pos (by simp [Region.wanted])]
  refine .inl ?_
  obtain ⟨b, hb, hbd⟩ := hr.bd
  have hv := hr.rel.tmps t
  rw [hx] at hv
  obtain ⟨b', e1, e2⟩ := hv
  have hbb : b' = b := by rw [hb] at e1; simpa using e1.symm
  subst hbb
  have hs := hr.rel.ev y
  rw [hy] at hs
  have e3 : a.eval y = .string (bs s) := RelV.str hs
  have e4 : a.eval (.tmp t) = .pointer (some ⟨b', 0, none⟩) := e2
  have hrun : (execOp a.eval ⟨some d, .call { callee := .value (.func f), args := #[.tmp t, y], argTypes := ts }, T, pos, aft, none⟩).run x.P w = .ok (.enter f #[.pointer (some ⟨b', 0, none⟩), .string (bs s)]) w := by
    have e5 : a.eval (.func f) = .func (.func f) #[] #[] := rfl
    simp [execOp, resolve, Deferred.ofValue, invoke, e3, e4, e5, callFunc_run hf]
  unfold Oper.wp
  rw [hrun]
  simp only [Oper.upon]
  refine (hw _ b' q s w hbd.is hbd.nl hr.keep.size hlen).mono ?_
  rintro r w' ⟨⟨v, rfl⟩, hfr, h1, h2, h3⟩
  have hrel := (hr.rel.bd hbd hfr).put (d := d) (av := none) (u := v) (by simpa using hn) trivial
  exact k _ w' _ ⟨hrel, hr.keep.bd hbd hfr, b', hb, hbd.wrote hfr h1 h2 h3⟩ Q' hQ
theorem xOps_read {l : List Oper} {Q : St → Option (List UInt8) → Prop} {d t : Nat} {T pos aft} {f : FuncId} {ts : Array TypeId} {q : List UInt8} (hw : RdOk x.P x.T x.e f) (hf : fnB x.P f = true)
    (hx : st.tm t = some (.box x.oB (IsLens.whole Int))) (hq : q ≠ []) (hn : Nat.blt d st.n = true) (k : xOps x ops l Q (st.upd [(d, some (.v (bs q)))] []) none) :
    xOps x ops (⟨some d, .call { callee := .value (.func f), args := #[.tmp t], argTypes := ts }, T, pos, aft, none⟩ :: l) Q st (some q) := by
  intro G w a hr Q' hQ
  refine stepO_cons ?_
  unfold stepO
  rw [if_pos (by simp [Region.wanted])]
  refine .inl ?_
  obtain ⟨b, hb, hbd⟩ := hr.bd
  have hv := hr.rel.tmps t
  rw [hx] at hv
  obtain ⟨b', e1, e2⟩ := hv
  have hbb : b' = b := by rw [hb] at e1; simpa using e1.symm
  subst hbb
  have e4 : a.eval (.tmp t) = .pointer (some ⟨b', 0, none⟩) := e2
  have hrun : (execOp a.eval ⟨some d, .call { callee := .value (.func f), args := #[.tmp t], argTypes := ts }, T, pos, aft, none⟩).run x.P w = .ok (.enter f #[.pointer (some ⟨b', 0, none⟩)]) w := by
    have e5 : a.eval (.func f) = .func (.func f) #[] #[] := rfl
    simp [execOp, resolve, Deferred.ofValue, invoke, e4, e5, callFunc_run hf]
  unfold Oper.wp
  rw [hrun]
  simp only [Oper.upon]
  refine (hw _ b' q w hbd.is hq).mono ?_
  rintro r w' ⟨rfl, hfr⟩
  have hrel := (hr.rel.bd hbd hfr).put (d := d) (av := some (.v (bs q))) (u := .string (bs q)) (by simpa using hn) (relStr _ _ _ _)
  exact k _ w' _ ⟨hrel, hr.keep.bd hbd hfr, trivial⟩ Q' hQ
end Go.Wt

/- A builder of strings: what its functions do. -/
set_option linter.unusedVariables false
set_option linter.unusedSimpArgs false
namespace Go.Proofs.YtgfoeiieopnlaaaGreatDoor
open Go Go.Wt Go.RowKit
set_option maxHeartbeats 1000000 in
theorem bdCheck_used (b : Nat) (w : Go.World) (h0 : w.cell? ⟨b, 0, none⟩ = some (.pointer (some ⟨b, 0, none⟩))) :
    Calls Tryz.prog 37 #[.pointer (some ⟨b, 0, none⟩)] w fun r w' => r = .returned (.tuple #[]) ∧ w' = w := by
  have hne := fun (w : Go.World) => Lib.run_neq_ptr_same (P := Tryz.prog) (tp := 41) (te := 43) w ⟨b, 0, none⟩ (j := Tryz.t43) (by kernel_rfl) (by kernel_rfl)
  go_enter Tryz.func37, Tryz.ntmps37
  go_wp2
  go_end0
  exact ⟨rfl, rfl⟩
set_option maxHeartbeats 1000000 in
theorem bdCheck_fresh (b : Nat) (w : Go.World) (h0 : w.cell? ⟨b, 0, none⟩ = some (.pointer none)) (hsh : w.shape? b = some (43, 2)) (hfz : w.frozen? ⟨b, 0, none⟩ = false) :
    Calls Tryz.prog 37 #[.pointer (some ⟨b, 0, none⟩)] w fun r w' => r = .returned (.tuple #[]) ∧ w' = w.setCell ⟨b, 0, none⟩ (.pointer (some ⟨b, 0, none⟩)) := by
  have h1 := Lib.run_to_unsafe (P := Tryz.prog) (src := 41) (dst := 104) (t := 43) (j := Tryz.t43) w ⟨b, 0, none⟩ (by kernel_rfl) (by kernel_rfl) (by kernel_rfl) (by decide) hsh (Nat.zero_lt_succ 1)
  have h2 := Lib.run_from_unsafe (P := Tryz.prog) (src := 104) (dst := 41) (u := 43) (j := Tryz.t43) w ⟨b, 0, none⟩ (by kernel_rfl) (by kernel_rfl) (by kernel_rfl) hsh (by kernel_rfl)
  have h3 : (callFunc 70 #[.pointer (some ⟨b, 0, none⟩)]).run Tryz.prog w = .ok (.value (.pointer (some ⟨b, 0, none⟩))) w := by
    rw [run_callFunc_extern Tryz.func70 (by kernel_rfl) (by kernel_rfl) (by kernel_rfl) (e := Extern.AbiNoEscape.same) (by kernel_rfl)]
    rfl
  go_enter Tryz.func37, Tryz.ntmps37
  go_wp2
  go_end0
  exact ⟨rfl, rfl⟩
theorem wpList_appStr {P : Program} {ops : Array Oper} {rest : List Oper} {o : Oper} {a : Act} {w w' : Go.World} {Q : Exit → Act → Go.World → Prop} (hgd : o.guard = none) (sl x : Operand) (t u : TypeId)
    (ho : o.op = .call { callee := .builtin .append, args := #[sl, x], argTypes := #[t, u] }) {v v' : Value} {s : ByteArray} (hs : a.eval sl = v) (hx : a.eval x = .string s)
    (hr : (Builtin.append_ #[t, u] o.type #[v, .string s]).run P w = .ok v' w') (h : wpList P ops Q rest (a.put o.dst v') w') : wpList P ops Q (o :: rest) a w := by
  refine wpList_plain hgd fun K hK => ?_
  unfold Oper.wp execOp
  simp only [ho, resolve, invoke, builtin, Sem.run_bind, Sem.run_pure, Result.andThen_ok, List.map_toArray, List.map_cons, List.map_nil, hs, hx, hr]
  exact hK _ _ h
theorem cell_heap {w : Go.World} {b : Nat} {cs : Array Value} {T : TypeId} (h : w.heap[b]? = some (.cells cs T (0, 0))) (i : Nat) : w.cell? ⟨b, i, none⟩ = cs[i]? := by simp [World.cell?, h]
theorem bdCheck {b : Nat} {p v : Value} {w : Go.World} (hp : p = .pointer none ∨ p = .pointer (some ⟨b, 0, none⟩)) (hb : w.heap[b]? = some (.cells #[p, v] 43 (0, 0))) :
    Calls Tryz.prog 37 #[.pointer (some ⟨b, 0, none⟩)] w fun r w' => r = .returned (.tuple #[]) ∧ w'.heap[b]? = some (.cells #[.pointer (some ⟨b, 0, none⟩), v] 43 (0, 0)) ∧
      w'.os = w.os ∧ w'.tape = w.tape ∧ w'.output = w.output ∧ w'.heap.size = w.heap.size ∧ ∀ k, k ≠ b → w'.heap[k]? = w.heap[k]? := by
  rcases hp with rfl | rfl
  · refine (bdCheck_fresh b w (by rw [cell_heap hb]; rfl) (by simp [World.shape?, hb]) (by simp [World.frozen?, hb])).mono ?_
    rintro r w' ⟨rfl, rfl⟩
    exact ⟨rfl, heap_setCell_same w b 0 _ _ _ hb, rfl, rfl, rfl, by simp [World.setCell], fun k hk => heap_setCell_other w _ k _ hk⟩
  · refine (bdCheck_used b w (by rw [cell_heap hb]; rfl)).mono ?_
    rintro r w' ⟨rfl, rfl⟩
    exact ⟨rfl, hb, rfl, rfl, rfl, rfl, fun k hk => rfl⟩
set_option maxHeartbeats 2000000 in
set_option maxRecDepth 100000 in
theorem bdWrite_ok : WrOk Tryz.prog 43 5 23 := by
  intro lo b l s w his hnl hlo hlen
  obtain ⟨p, v, hp, hlb, hb, hown, hne⟩ := isB_parts his
  have hbz := lt_of_heap hb
  go_enter Tryz.func23, Tryz.ntmps23
  go_wp2_with (go_at_call 37; refine (bdCheck hp hb).mono ?_)
  rintro r w1 ⟨rfl, hb1, g1, g2, g3, g4, g5⟩
  have hown1 : w1.ownsRow lo 5 1 v l.length (Lib.byteCells l) := by
    refine ⟨hown.1, ?_⟩
    rcases hown.2 with h5 | ⟨g, cap, cur, rfl, h6, h7, h8⟩
    · exact .inl h5
    · exact .inr ⟨g, cap, cur, rfl, h6, (g5 g (fun e => hne (by rw [e]; rfl))).trans h7, h8⟩
  obtain ⟨v', w2, hr, hown2, hgr, hiff, hnew⟩ := run_app_bd (P := Tryz.prog) w1 22 9 22 5 Tryz.t5 (by kernel_rfl) (by kernel_rfl) (by kernel_rfl) (by kernel_rfl) (by kernel_rfl) (by kernel_rfl) lo v l s hown1 hlen (by rw [g4]; exact hlo)
  have c1 : w1.cell? ⟨b, 1, none⟩ = some v := by rw [cell_heap hb1]; rfl
  have hb2 : w2.heap[b]? = some (.cells #[.pointer (some ⟨b, 0, none⟩), v] 43 (0, 0)) := by
    rw [hgr.block b (by rw [g4]; exact hbz) (fun e => hne e.symm)]
    exact hb1
  have d1 : w2.cell? ⟨b, 1, none⟩ = some v := by rw [cell_heap hb2]; rfl
  have f1 : w2.frozen? ⟨b, 1, none⟩ = false := by simp [World.frozen?, hb2]
  obtain ⟨ao, n', cap, rfl⟩ : ∃ ao n' cap, v' = .slice ao n' cap := by
    rcases hown2.2 with ⟨hv, _⟩ | ⟨g, cap, cur, hv, _⟩
    · exact ⟨_, _, _, hv⟩
    · exact ⟨_, _, _, hv⟩
  go_wp2_with (at_builtin; refine wpList_appStr rfl _ _ 22 9 rfl rfl rfl hr ?_)
  go_wp2
  go_ret2
  have hB : Lib.BuilderAt 43 5 lo b (.pointer (some ⟨b, 0, none⟩)) (Lib.byteCells (l ++ s)) (w2.setCell ⟨b, 1, none⟩ (.slice ao n' cap)) :=
    Lib.BuilderAt.put (T := 43) (e := 5) hlb hb2 (by rw [Lib.byteCells_length]; exact hown2) (by decide)
  have hc2 : cl (w2.setCell ⟨b, 1, none⟩ (.slice ao n' cap)) b 1 = some (.slice ao n' cap) := by
    have h3 := heap_setCell_same w2 b 1 _ _ (.slice ao n' cap) hb2
    exact (cell_heap h3 1).trans rfl
  have hvw : cl w b 1 = some v := (cell_heap hb 1).trans rfl
  have hbne : ∀ g, v.ownBlock = some g → g ≠ b := fun g hg e => hne (by rw [hg, e])
  refine ⟨⟨_, rfl⟩, ⟨?_, ?_, ?_, ?_, fun k hk hkb hkv => ?_⟩, .inr hB, fun hnil => ?_, fun u g hu hg => ?_⟩
  · exact hgr.os.trans g1
  · exact hgr.tape.trans g2
  · exact hgr.output.trans g3
  · have := hgr.size
    rw [g4] at this
    simpa [World.setCell] using this
  · rw [heap_setCell_other w2 _ k _ hkb, hgr.block k (by rw [g4]; exact hk) (fun e => hkv v hvw e.symm), g5 k hkb]
  · rw [hc2, hiff.2 ⟨?_, by rw [(List.append_eq_nil_iff.1 hnil).2]; rfl⟩]
    have := hnl (List.append_eq_nil_iff.1 hnil).1
    rw [hvw] at this
    injection this
  · rw [hc2] at hu
    injection hu with hu
    subst hu
    rcases hnew with h6 | ⟨h6, h7⟩
    · left
      rw [← g4]
      exact h6 g hg
    · right
      rw [h6] at hg
      have hgb := hbne g hg
      refine ⟨v, hvw, hg, fun j hj => ?_⟩
      rw [show cl (w2.setCell ⟨b, 1, none⟩ (.slice ao n' cap)) g j = cl w2 g j from cl_of_block (heap_setCell_other w2 ⟨b, 1, none⟩ g _ hgb) j] at hj
      have := h7 g j hg hj
      rwa [show cl w1 g j = cl w g j from cl_of_block (g5 g hgb) j] at this
theorem freeze_fr {w : Go.World} {b g : Nat} (n : Nat) (hv : ∃ v, cl w b 1 = some v ∧ v.ownBlock = some g) : BdFr w b (w.drew.freeze ⟨g, 0, none⟩ n) := by
  unfold World.freeze
  split
  · exact ⟨rfl, rfl, rfl, Nat.le_refl _, fun k _ _ _ => rfl⟩
  · refine ⟨rfl, rfl, rfl, by simp, fun k hk hkb hkv => ?_⟩
    obtain ⟨v, h1, h2⟩ := hv
    simp only [Array.getElem?_modify]
    rw [if_neg (fun e => hkv v h1 (by rw [h2, show g = k from e]))]
    rfl
set_option maxHeartbeats 2000000 in
set_option maxRecDepth 100000 in
theorem bdRead_ok : RdOk Tryz.prog 43 5 27 := by
  intro lo b l w his h0
  obtain ⟨p, v, hp, hlb, hb, hown, hne⟩ := isB_parts his
  have hbz := lt_of_heap hb
  have hl0 : l.length ≠ 0 := by simpa using h0
  obtain ⟨g, cap, cur, rfl, hbg, hg, hnc, hcm, hcs, htake⟩ : ∃ g cap cur, v = .slice (some ⟨g, 0, none⟩) l.length cap ∧ lo ≤ g ∧ w.heap[g]? = some (.cells cur 5 (0, 0)) ∧ l.length ≤ cap ∧ cap ≤ maxLen ∧ cur.size = cap * 1 ∧ cur.toList.take (l.length * 1) = Lib.byteCells l := by
    rcases hown.2 with ⟨_, hz⟩ | ⟨g, cap, cur, hv, r⟩
    · exact absurd hz hl0
    · exact ⟨g, cap, cur, hv, r⟩
  have hbd : w.drew.heap[b]? = some (.cells #[p, .slice (some ⟨g, 0, none⟩) l.length cap] 43 (0, 0)) := hb
  have c1 : w.drew.cell? ⟨b, 1, none⟩ = some (.slice (some ⟨g, 0, none⟩) l.length cap) := by rw [cell_heap hbd]; rfl
  have hSD : (Builtin.unsafeSliceData_ #[22] 89 #[.slice (some ⟨g, 0, none⟩) l.length cap]).run Tryz.prog w.drew = .ok (.pointer (some ⟨g, 0, none⟩)) w.drew :=
    Lib.run_unsafeSliceData_row _ _ _ _ _ _ (by omega)
  have hUS : (Builtin.unsafeString_ #[89, 3] 9 #[.pointer (some ⟨g, 0, none⟩), .int .i64 l.length]).run Tryz.prog w.drew = .ok (.string ⟨l.toArray⟩) (w.drew.freeze ⟨g, 0, none⟩ l.length) := by
    refine Lib.run_unsafeString_row w.drew 89 3 9 5 (by kernel_rfl) (by kernel_rfl) g cur.size (by have hg' : w.drew.heap[g]? = some (.cells cur 5 (0, 0)) := hg; simp [World.shape?, hg']) l h0 (by omega) (by unfold maxLen at hcm; omega) ?_
    intro j x hx
    have := hown.cells (g := g) rfl j (.int .u8 x.toNat) (by simp [Lib.byteCells, hx])
    exact this
  go_enter Tryz.func27, Tryz.ntmps27
  go_wp2
  go_region
  all_goals (go_wp2; go_ret; exact ⟨rfl, freeze_fr l.length ⟨_, (cell_heap hb 1).trans rfl, rfl⟩⟩)
end Go.Proofs.YtgfoeiieopnlaaaGreatDoor

/- Lines: the reference does the same. -/
set_option linter.unusedVariables false
set_option linter.unusedSimpArgs false
namespace Go.Wt
open Go
theorem propose_bad (w : Wrld) (id : Int) {p : Pay} (h : payOk p = false) : wproposeF w id p = w := by
  unfold wproposeF
  rw [if_neg (by simp [h])]
theorem propose_same (w : Wrld) (id : Int) (l : List UInt8) : wproposeF w id (payS l) = wproposeF w id (payOfF l) := by
  rcases pay_same l with e | ⟨e1, e2⟩
  · rw [e]
  · rw [propose_bad w id e1, propose_bad w id e2]
theorem chains_same : ∀ ls : List (List UInt8), ls.map itemI = ls.map itemS ∨ ((∃ x ∈ ls.map itemI, payOk x.pay = false) ∧ ∃ x ∈ ls.map itemS, payOk x.pay = false)
  | [] => .inl rfl
  | l :: ls => by
    rcases item_same l with e | ⟨e1, e2⟩
    · rcases chains_same ls with f | ⟨⟨x, f1, f2⟩, ⟨y, g1, g2⟩⟩
      · left; rw [List.map_cons, List.map_cons, e, f]
      · right
        exact ⟨⟨x, by simp only [List.map_cons]; exact List.mem_cons_of_mem _ f1, f2⟩, ⟨y, by simp only [List.map_cons]; exact List.mem_cons_of_mem _ g1, g2⟩⟩
    · right
      exact ⟨⟨itemI l, by simp, e1⟩, ⟨itemS l, by simp, e2⟩⟩
def chainS (s : List UInt8) : List Itm := (splitF 44 s).map itemS
theorem bad_chain {c : List Itm} (h : ∃ x ∈ c, payOk x.pay = false) : chainOk c = false := by
  obtain ⟨x, h1, h2⟩ := h
  cases hc : chainOk c with
  | false => rfl
  | true => have := chainOk_pay hc x h1; rw [h2] at this; cases this
theorem forge_bad (w : Wrld) {c : List Itm} (h : chainOk c = false) : doF w ⟨4, 0, 0, .zero, ⟨w.bad, c⟩⟩ = w := by
  simp only [doF]
  rw [if_neg (by decide), if_neg (by decide), if_neg (by decide), if_pos (by decide), if_neg]
  simp [voteOk, h]
theorem forge_same (w : Wrld) (s : List UInt8) : doF w ⟨4, 0, 0, .zero, ⟨w.bad, chainS s⟩⟩ = doF w ⟨4, 0, 0, .zero, ⟨w.bad, chainI s⟩⟩ := by
  rcases chains_same (splitF 44 s) with e | ⟨e1, e2⟩
  · unfold chainS chainI; rw [e]
  · rw [forge_bad w (c := chainS s) (bad_chain e2), forge_bad w (c := chainI s) (bad_chain e1)]
/-- The reference's payments of a calm. -/
def paysS (n : Int) (p : Pay) : List Pay := if payOk p then List.replicate (max (min n 30) 0).toNat p else []
def lineS (w : Wrld) (ws : List (List UInt8)) : Wrld × List UInt8 :=
  if wordF ws 0 = [116, 105, 99, 107] then (tickF w, []) else
  if wordF ws 0 = [112, 114, 111, 112, 111, 115, 101] then (wproposeF w (numF (wordF ws 1)) (payS (wordF ws 2)), []) else
  if wordF ws 0 = [98, 114, 105, 110, 103] then (wbringF w (numF (wordF ws 1)) (numF (wordF ws 2)), []) else
  if wordF ws 0 = [102, 111, 114, 103, 101] then (doF w ⟨4, 0, 0, .zero, ⟨w.bad, chainS (wordF ws 1)⟩⟩, []) else
  if wordF ws 0 = [115, 112, 114, 101, 97, 100] then (spreadF w, []) else
  if wordF ws 0 = [99, 97, 108, 109] then (worldCalmR w (paysS (numF (wordF ws 1)) (payS (wordF ws 2))), []) else
  if wordF ws 0 = [115, 101, 101] then (w, if within (numF (wordF ws 1)) 1 4 then statusF (numF (wordF ws 1)) (w.nodes.getD (numF (wordF ws 1) - 1).toNat .zero) else whatB) else
  if wordF ws 0 = [108, 111, 103] then (w, decI (w.log.length : Int) ++ [10]) else (w, whatB)
theorem pays_len (n : Int) (p : Pay) : (paysS n p).length ≤ 30 := by
  unfold paysS
  split
  · simp; omega
  · simp
theorem calm_same {w : Wrld} (hw : worldOk w = true) (n : Int) (l : List UInt8) : worldCalmR w (paysS n (payS l)) = calmI w n (payOfF l) := by
  have hl := pays_len n (payS l)
  unfold worldCalmR
  rw [if_pos (by simp [hw]; omega)]
  unfold paysS calmI
  rcases pay_same l with e | ⟨e1, e2⟩
  · rw [e]
    split <;> rfl
  · rw [e1, e2]; rfl
theorem lineS_eq {w : Wrld} (hw : worldOk w = true) (ws : List (List UInt8)) : lineS w ws = lineI w ws := by
  unfold lineS lineI
  rw [propose_same, forge_same, calm_same hw]
theorem calmI_wok {w : Wrld} (h : WOk w) (n : Int) (p : Pay) : WOk (calmI w n p) := by
  unfold calmI
  split
  · exact calmFold_wok _ h
  · exact h
/-- Lines keep a world in form. -/
theorem lineI_wok {w : Wrld} (h : WOk w) (ws : List (List UInt8)) : WOk (lineI w ws).1 := by
  unfold lineI
  split
  · exact (Stp.tick h).ok
  split
  · exact (Stp.propose h _ _).ok
  split
  · exact (Stp.bring h _ _).ok
  split
  · exact (Stp.do h ⟨4, 0, 0, .zero, ⟨w.bad, chainI (wordF ws 1)⟩⟩).ok
  split
  · exact sprF_wok 100 0 h
  split
  · exact calmI_wok h _ _
  split
  · exact h
  split <;> exact h
end Go.Wt
namespace Go.Wt
open Go
def linesStep (x : Wrld × List UInt8) (line : List UInt8) : Wrld × List UInt8 := ((lineI x.1 (splitF 32 line)).1, x.2 ++ (lineI x.1 (splitF 32 line)).2)
def tailStep (bad : Int) (w : Wrld) (out : List UInt8) (id : Int) : List UInt8 := if id = bad then out else out ++ statusF id (w.nodes.getD (id - 1).toNat .zero)
def runF (bad : Int) (text : List UInt8) : Wrld × List UInt8 := (splitF 10 text).dropLast.foldl linesStep (newW bad, [])
def noWorldB : List UInt8 := [110, 111, 32, 119, 111, 114, 108, 100, 10]
def tooLongB : List UInt8 := [116, 111, 111, 32, 108, 111, 110, 103, 10]
/-- What a script prints. -/
def linesF (bad : Int) (text : List UInt8) : List UInt8 :=
  if within bad 0 4 then
    if text.length ≤ 600 then ([1, 2, 3, 4] : List Int).foldl (tailStep bad (runF bad text).1) (runF bad text).2 else tooLongB
  else noWorldB
end Go.Wt

/- A script, line by line. -/
set_option linter.unusedVariables false
set_option linter.unusedSimpArgs false
namespace Go.Wt
open Go
theorem status_len {w : Wrld} (hw : FineX w) {id : Int} (hid : within id 1 4 = true) : (statusF id (w.nodes.getD (id - 1).toNat .zero)).length ≤ 40 := by
  have h4 := hw.four
  have hid' : 1 ≤ id ∧ id ≤ 4 := by simpa [within] using hid
  have hx : w.nodes[(id - 1).toNat]? = some (w.nodes.getD (id - 1).toNat .zero) := by
    rw [List.getD_eq_getElem?_getD, List.getElem?_eq_getElem (by omega)]; rfl
  generalize w.nodes.getD (id - 1).toNat .zero = n at hx
  have hs := nodeOk_seen (hw.nodes n (List.mem_of_getElem? hx))
  have hbl := (book_bk (final_chainOk (votesOk_mem hs.1))).len
  have hh := statHead_len id (finalOf n.seen)
  have := stat_len (bookF (finalOf n.seen)) (statHead id (finalOf n.seen))
  unfold statusF
  simp only [List.length_append, List.length_cons, List.length_nil]
  omega
theorem status_ne (id : Int) (n : Nod) : statusF id n ≠ [] := by unfold statusF; simp
theorem lineI_len {w : Wrld} (hw : FineX w) (ws : List (List UInt8)) : (lineI w ws).2.length ≤ 40 := by
  unfold lineI
  split
  · simp
  split
  · simp
  split
  · simp
  split
  · simp
  split
  · simp
  split
  · simp
  split
  · show (if _ then _ else _ : List UInt8).length ≤ 40
    split
    · rename_i h; exact status_len hw h
    · simp [whatB]
  split
  · have := decI_len (w.log.length : Int)
    simp; omega
  · simp [whatB]
/-- Lines, one behind the other, from a text on. -/
def runL (t : List UInt8) (x : Wrld × List UInt8) : Wrld × List UInt8 := (splitF 10 t).dropLast.foldl linesStep x
theorem runL_neg {t : List UInt8} (h : (cutB t 10).2.2 = false) (x : Wrld × List UInt8) : runL t x = x := by
  unfold cutB at h
  split at h
  · cases h
  · unfold runL
    rw [(indexByte_neg (by omega : Go.Lib.indexByte t 10 < 0)).2.1]
    rfl
theorem runL_pos {t : List UInt8} (h : (cutB t 10).2.2 = true) (x : Wrld × List UInt8) : runL t x = runL (cutB t 10).2.1 (linesStep x (cutB t 10).1) ∧ (cutB t 10).2.1.length + 1 ≤ t.length ∧ (cutB t 10).1.length ≤ t.length := by
  unfold cutB at h ⊢
  split at h
  · rename_i h0
    have h1 := indexByte_lt t 10
    rw [if_pos h0]
    refine ⟨?_, by simp; omega, by simp; omega⟩
    unfold runL
    have hn : (Go.Lib.indexByte t 10 + 1).toNat = (Go.Lib.indexByte t 10).toNat + 1 := by omega
    rw [(indexByte_pos h0).1]
    have hne := splitF_ne 10 (t.drop ((Go.Lib.indexByte t 10).toNat + 1))
    show List.foldl linesStep x (_ :: splitF 10 (t.drop ((Go.Lib.indexByte t 10).toNat + 1))).dropLast = _
    rw [hn]
    match hs : splitF 10 (t.drop ((Go.Lib.indexByte t 10).toNat + 1)), hne with
    | a :: r, _ => rfl
  · cases h
theorem tail_mono (bad : Int) (w : Wrld) : ∀ (ids : List Int) (out : List UInt8), out ≠ [] → ids.foldl (tailStep bad w) out ≠ []
  | [], out, h => h
  | i :: r, out, h => by
    refine tail_mono bad w r _ ?_
    unfold tailStep
    split
    · exact h
    · simp [h]
theorem tail_ne (bad : Int) (w : Wrld) (out : List UInt8) : ([1, 2, 3, 4] : List Int).foldl (tailStep bad w) out ≠ [] := by
  by_cases h : bad = 1
  · subst h
    refine tail_mono 1 w [3, 4] _ ?_
    simp only [tailStep]
    rw [if_pos trivial, if_neg (by decide)]
    simp [status_ne]
  · refine tail_mono bad w [2, 3, 4] _ ?_
    unfold tailStep
    rw [if_neg (fun e => h e.symm)]
    simp [status_ne]
theorem tail_len {w : Wrld} (hw : FineX w) (bad : Int) (out : List UInt8) : ∀ k, k ≤ 4 → ((([1, 2, 3, 4] : List Int).take k).foldl (tailStep bad w) out).length ≤ out.length + 40 * k
  | 0, _ => by simp
  | k + 1, hk => by
    have ih := tail_len hw bad out k (by omega)
    have hx : ([1, 2, 3, 4] : List Int)[k]? = some ((k : Int) + 1) := by
      have : k = 0 ∨ k = 1 ∨ k = 2 ∨ k = 3 := by omega
      rcases this with e | e | e | e <;> subst e <;> rfl
    rw [foldl_at (tailStep bad w) _ hx]
    generalize (([1, 2, 3, 4] : List Int).take k).foldl (tailStep bad w) out = q at ih
    unfold tailStep
    split
    · omega
    · have := status_len hw (id := (k : Int) + 1) (by simp [within]; omega)
      rw [List.length_append]
      omega
theorem newW_wok {bad : Int} (h : within bad 0 4 = true) : WOk (newW bad) := (Inv.new h).wok
/-- A text of whole lines. -/
def TextOk (l : List UInt8) : Prop := l = [] ∨ ∃ m, l = m ++ [10]
theorem TextOk.app {a b : List UInt8} (h : TextOk a) (k : TextOk b) : TextOk (a ++ b) := by
  rcases k with rfl | ⟨m, rfl⟩
  · rw [List.append_nil]; exact h
  · exact .inr ⟨a ++ m, by rw [List.append_assoc]⟩
theorem TextOk.line (a : List UInt8) : TextOk (a ++ [10]) := .inr ⟨a, rfl⟩
end Go.Wt

/- A script. -/
set_option linter.unusedVariables false
set_option linter.unusedSimpArgs false
namespace Go.Proofs.YtgfoeiieopnlaaaGreatDoor
open Go Go.Wt
theorem iLinesBad_ct (bad : Int) (text : List UInt8) (hb : within bad 0 4 = false) : CtP Tryz.prog 15 [.v bad, .v (bs text)] (.v (bs noWorldB)) := by
  refine Ct.intro Tryz.func15 rfl rfl ?_
  refine aS (aR ?_)
  refine oC (oA rfl (Conv.of rfl) rfl) ?_
  refine oN ?_
  refine aS (aR ?_)
  refine oC (oM rfl (Conv.of rfl) rfl) ?_
  refine oC (oL fb21 (.cons rfl (Conv.of rfl) (.nil _)) (worldNewBad_ct bad hb) (aK rfl rfl aK0) rfl rfl) ?_
  refine oC (oM rfl (Conv.of rfl) rfl) ?_
  refine oC (op_ext rfl rfl rfl) ?_
  refine oC (op_ext rfl rfl rfl) ?_
  refine oC (oX (o := 0) z38_WrldA rfl rfl) ?_
  refine oC (op_st ty38_WrldA rfl rfl (Conv.of rfl) rfl) ?_
  refine oC (oA rfl (Conv.of rfl) rfl) ?_
  refine oN ?_
  refine aS (aB ?_)
  refine aS (aR ?_)
  refine oC (oM rfl (Conv.of rfl) rfl) ?_
  refine oC (op_not rfl rfl) ?_
  refine oC (oA rfl (Conv.of rfl) rfl) ?_
  refine oN ?_
  refine aC rfl (fun h => ?_) (fun h => absurd h (by decide))
  refine aS (aR ?_)
  refine oC (oA rfl (Conv.of rfl) rfl) ?_
  refine oN ?_
  refine aT ?_
  repeat first | refine rS ?_ | refine rB ?_
  exact finP (.v rfl (Conv.of rfl)) rfl rfl
set_option maxHeartbeats 1000000 in
theorem iLinesLong_ct (bad : Int) (text : List UInt8) (hb : within bad 0 4 = true) (hl : 600 < text.length) : CtP Tryz.prog 15 [.v bad, .v (bs text)] (.v (bs tooLongB)) := by
  refine Ct.intro Tryz.func15 rfl rfl ?_
  refine aS (aR ?_)
  refine oC (oA rfl (Conv.of rfl) rfl) ?_
  refine oN ?_
  refine aS (aR ?_)
  refine oC (oM rfl (Conv.of rfl) rfl) ?_
  refine awpOps_callO [] rfl fb21 (.cons rfl (Conv.of rfl) (.nil _)) (worldNew_ct bad hb) ols0 k0 (argOk' rfl rfl argO0) rfl ?_
  rintro r h' ⟨rfl, rfl⟩
  refine ⟨[(1, .arr (newW bad).nodes)], rfl, (fun o ho => by cases ho), fun o ho _ => ?_, kK bA k0, fun o ho => ?_, ?_⟩
  · have : o = 1 := by simpa [keys, lk0] using ho
    subst this; rfl
  · have : o = 1 := by simpa using (show o ∈ [1] from ho)
    subst this; rfl
  refine oC (oM rfl (Conv.of rfl) rfl) ?_
  refine oC (op_ext rfl rfl rfl) ?_
  refine oC (op_ext rfl rfl rfl) ?_
  refine oC (oX (o := 0) z38_WrldA rfl rfl) ?_
  refine oC (op_st ty38_WrldA rfl rfl (Conv.of rfl) rfl) ?_
  refine oC (oA rfl (Conv.of rfl) rfl) ?_
  refine oN ?_
  refine aS (aB ?_)
  refine aS (aR ?_)
  refine oC (oM rfl (Conv.of rfl) rfl) ?_
  refine oC (op_not rfl rfl) ?_
  refine oC (oA rfl (Conv.of rfl) rfl) ?_
  refine oN ?_
  refine aC rfl (fun h => absurd h (by decide)) (fun h => ?_)
  refine aS (aR ?_)
  refine oC (oM rfl (Conv.of rfl) rfl) ?_
  refine oC (op_lens un9 rfl rfl) ?_
  refine oC (op_gtr rfl rfl rfl) ?_
  refine oC (oA rfl (Conv.of rfl) rfl) ?_
  refine oN ?_
  refine aC rfl (fun h => ?_) (fun h => ?_)
  · refine aS (aR ?_)
    refine oC (oA rfl (Conv.of rfl) rfl) ?_
    refine oN ?_
    refine aT ?_
    repeat first | refine rS ?_ | refine rB ?_
    exact finP (.v rfl (Conv.of rfl)) rfl rfl
  · exfalso
    simp at h
    omega
set_option maxHeartbeats 2000000 in
theorem iLines_ct (bad : Int) (text : List UInt8) (hb : within bad 0 4 = true) (hl : text.length ≤ 600) : CtP Tryz.prog 15 [.v bad, .v (bs text)] (.v (bs (([1, 2, 3, 4] : List Int).foldl (tailStep bad (runL text (newW bad, [])).1) (runL text (newW bad, [])).2))) := by
  generalize hR : runL text (newW bad, []) = R
  refine Ct.intro Tryz.func15 rfl rfl ?_
  refine aS (aR ?_)
  refine oC (oA rfl (Conv.of rfl) rfl) ?_
  refine oN ?_
  refine aS (aR ?_)
  refine oC (oM rfl (Conv.of rfl) rfl) ?_
  refine awpOps_callO [] rfl fb21 (.cons rfl (Conv.of rfl) (.nil _)) (worldNew_ct bad hb) ols0 k0 (argOk' rfl rfl argO0) rfl ?_
  rintro r h' ⟨rfl, rfl⟩
  refine ⟨[(1, .arr (newW bad).nodes)], rfl, (fun o ho => by cases ho), fun o ho _ => ?_, kK bA k0, fun o ho => ?_, ?_⟩
  · have : o = 1 := by simpa [keys, lk0] using ho
    subst this; rfl
  · have : o = 1 := by simpa using (show o ∈ [1] from ho)
    subst this; rfl
  refine oC (oM rfl (Conv.of rfl) rfl) ?_
  refine oC (op_ext rfl rfl rfl) ?_
  refine oC (op_ext rfl rfl rfl) ?_
  refine oC (oX (o := 0) z38_WrldA rfl rfl) ?_
  refine oC (op_st ty38_WrldA rfl rfl (Conv.of rfl) rfl) ?_
  refine oC (oA rfl (Conv.of rfl) rfl) ?_
  refine oN ?_
  refine aS (aB ?_)
  refine aS (aR ?_)
  refine oC (oM rfl (Conv.of rfl) rfl) ?_
  refine oC (op_not rfl rfl) ?_
  refine oC (oA rfl (Conv.of rfl) rfl) ?_
  refine oN ?_
  refine aC rfl (fun h => absurd h (by decide)) (fun h => ?_)
  refine aS (aR ?_)
  refine oC (oM rfl (Conv.of rfl) rfl) ?_
  refine oC (op_lens un9 rfl rfl) ?_
  refine oC (op_gtr rfl rfl rfl) ?_
  refine oC (oA rfl (Conv.of rfl) rfl) ?_
  refine oN ?_
  refine aC rfl (fun h => ?_) (fun h => ?_)
  · exfalso
    simp at h
    omega
  refine aW ?_
  repeat first | refine nS ?_ | refine nB ?_
  refine awp_of_x 43 5 9 fun G0 w0 => ?_
  refine x_seq (x_region (id := 6) ?_)
  refine xOps_new ⟨Tryz.t43, by kernel_rfl, by kernel_rfl⟩ rfl rfl ?_
  refine xOps_nil ?_
  refine x_seq (x_block ?_)
  refine x_loop' (fun n s m => ∃ (t : List UInt8), ∃ (w : Wrld), ∃ (out : List UInt8), ∃ (hw : WOk w), ∃ (hr : runL t (w, out) = R), ∃ (ht : n = t.length), ∃ (hq : out.length + 40 * t.length ≤ 24000), s = mkSt 48 [(0, .v bad), (1, .v (bs t)), (5, .box 0 (IsLens.whole WrldA)), (7, .box 9 (IsLens.whole Int))] [(0, .cell (wA w)), (1, .arr w.nodes), (9, .dead)] ∧ m = some (out)) (text.length) ⟨text, newW bad, [], newW_wok hb, hR, rfl, by simp; omega, rfl, rfl⟩ (Le.mk rfl (tle rfl (rfl) rfl (tle rfl (rfl) rfl (tlb rfl rfl rfl (tlb rfl rfl rfl tln)))) (olk rfl (by exact obOkW rfl) (olk rfl (by exact bA) (olk rfl (by trivial) oln))) (xS (o := 9) rfl)) ?_
  rintro n s m ⟨t, w, out, hw, hr, ht, hq, rfl, rfl⟩
  have h4 := hw.fx.four
  refine x_block ?_
  refine x_seq (x_region (id := 7) ?_)
  refine xOps_cons (oM rfl (Conv.of rfl) rfl) ?_
  refine xOps_cons (oL fb22 (.cons rfl (Conv.of rfl) (.cons rfl (Conv.of rfl) (.nil _))) (cut_ct t 10 (by omega)) (aK rfl rfl (aK rfl rfl aK0)) rfl rfl) ?_
  refine xOps_cons (oM rfl (Conv.of rfl) rfl) ?_
  refine xOps_cons (op_ext rfl rfl rfl) ?_
  refine xOps_cons (op_ext rfl rfl rfl) ?_
  refine xOps_cons (op_ext rfl rfl rfl) ?_
  refine xOps_cons (oA rfl (Conv.of rfl) rfl) ?_
  refine xOps_cons (oA rfl (Conv.of rfl) rfl) ?_
  refine xOps_cons (oA rfl (Conv.of rfl) rfl) ?_
  refine xOps_nil ?_
  refine x_seq (x_seq (x_region (id := 8) ?_))
  refine xOps_cons (oM rfl (Conv.of rfl) rfl) ?_
  refine xOps_cons (op_not rfl rfl) ?_
  refine xOps_nil ?_
  refine x_cond rfl (fun h => ?_) (fun h => ?_)
  · have hx : (w, out) = R := by rw [← hr, runL_neg (by simpa using (show (!(cutB t 10).2.2) = true from h))]
    subst hx
    refine x_exit ?_
    repeat refine xe_seq ?_
    refine xe_other rfl ?_
    repeat refine xe_seq ?_
    refine xe_block ?_
    refine xn_seq ?_
    refine x_seq (x_seq (x_region (id := 11) ?_))
    refine xOps_cons (oA rfl (Conv.of rfl) rfl) ?_
    refine xOps_nil ?_
    refine x_block ?_
    refine x_loop' (fun n s m => ∃ (k : Nat), ∃ (hk : n + k = 4), s = mkSt 48 [(0, .v bad), (5, .box 0 (IsLens.whole WrldA)), (7, .box 9 (IsLens.whole Int)), (11, .v ((k : Int) + 1))] [(0, .cell (wA w)), (1, .arr w.nodes), (9, .dead)] ∧ m = some ((([1, 2, 3, 4] : List Int).take k).foldl (tailStep bad w) out)) (4) ⟨0, by omega, rfl, rfl⟩ (Le.mk rfl (tle rfl (rfl) rfl (tlb rfl rfl rfl (tlb rfl rfl rfl (tle rfl (rfl) rfl tln)))) (olk rfl (by exact obOkW rfl) (olk rfl (by exact bA) (olk rfl (by trivial) oln))) (xS (o := 9) rfl)) ?_
    rintro n s m ⟨k, hk, rfl, rfl⟩
    refine x_seq (x_seq (x_region (id := 12) ?_))
    refine xOps_cons (oM rfl (Conv.of rfl) rfl) ?_
    refine xOps_cons (op_leq rfl rfl rfl) ?_
    refine xOps_nil ?_
    have htl := tail_len hw.fx bad out k
    refine x_cond rfl (fun h2 => ?_) (fun h2 => ?_)
    · have hk3 : k < 4 := by
        have h0 : (k : Int) + 1 ≤ 4 := of_decide_eq_true h2
        omega
      have hxk : ([1, 2, 3, 4] : List Int)[k]? = some ((k : Int) + 1) := by
        have : k = 0 ∨ k = 1 ∨ k = 2 ∨ k = 3 := by omega
        rcases this with e | e | e | e <;> subst e <;> rfl
      have hxn : w.nodes[((k : Int) + 1 - 1).toNat]? = some (w.nodes.getD ((k : Int) + 1 - 1).toNat .zero) := by
        rw [List.getD_eq_getElem?_getD, List.getElem?_eq_getElem (by omega)]; rfl
      have hsl := status_len hw.fx (id := (k : Int) + 1) (by simp [within]; omega)
      have htk := htl (by omega)
      refine x_skip ?_
      refine x_seq (x_block ?_)
      refine x_seq (x_region (id := 14) ?_)
      refine xOps_cons (oM rfl (Conv.of rfl) rfl) ?_
      refine xOps_cons (oM rfl (Conv.of rfl) rfl) ?_
      refine xOps_cons (op_neq rfl rfl rfl) ?_
      refine xOps_nil ?_
      refine x_cond rfl (fun h3 => ?_) (fun h3 => ?_)
      · have hne : ¬ ((k : Int) + 1 = bad) := by simpa using h3
        refine x_region (id := 15) ?_
        refine xOps_cons (oM rfl (Conv.of rfl) rfl) ?_
        refine xOps_cons (oLO fb26 (.cons rfl (Conv.of rfl) (.cons rfl (Conv.of rfl) (.nil _))) (status_ct w hw.fx ((k : Int) + 1) ⟨by omega, by omega⟩ _ hxn) (olsk rfl (olsk rfl ols0)) (kK (by exact obOkW rfl) (kK (by exact bA) k0)) (kK (by exact obOkW rfl) (kK (by exact bA) k0)) rfl (argOb rfl rfl rfl (argOk' rfl rfl argO0)) (fun o ho => by cases ho) rfl) ?_
        refine xOps_write bdWrite_ok fb23 rfl rfl (by omega) rfl ?_
        refine xOps_nil ?_
        refine x_region (id := 13) ?_
        refine xOps_cons (oM rfl (Conv.of rfl) rfl) ?_
        refine xOps_cons (oP rfl rfl rfl (by omega)) ?_
        refine xOps_cons (oA rfl (Conv.of rfl) rfl) ?_
        refine xOps_nil ?_
        repeat first | refine xn_seq ?_ | refine xn_block ?_
        exact ⟨n - 1, _, by omega, ⟨k + 1, by omega, rfl, (by rw [foldl_at (tailStep bad w) _ hxk]; unfold tailStep; rw [if_neg hne])⟩, Le.mk rfl (tle rfl (rfl) rfl (tlb rfl rfl rfl (tlb rfl rfl rfl (tle rfl (rfl) rfl tln)))) (olk rfl (by exact obOkW rfl) (olk rfl (by exact bA) (olk rfl (by trivial) oln))) (xS (o := 9) rfl)⟩
      · have he : (k : Int) + 1 = bad := by simpa using h3
        refine x_skip ?_
        refine x_region (id := 13) ?_
        refine xOps_cons (oM rfl (Conv.of rfl) rfl) ?_
        refine xOps_cons (oP rfl rfl rfl (by omega)) ?_
        refine xOps_cons (oA rfl (Conv.of rfl) rfl) ?_
        refine xOps_nil ?_
        repeat first | refine xn_seq ?_ | refine xn_block ?_
        exact ⟨n - 1, _, by omega, ⟨k + 1, by omega, rfl, (by rw [foldl_at (tailStep bad w) _ hxk]; unfold tailStep; rw [if_pos he])⟩, Le.mk rfl (tle rfl (rfl) rfl (tlb rfl rfl rfl (tlb rfl rfl rfl (tle rfl (rfl) rfl tln)))) (olk rfl (by exact obOkW rfl) (olk rfl (by exact bA) (olk rfl (by trivial) oln))) (xS (o := 9) rfl)⟩
    · refine x_exit ?_
      repeat refine xe_seq ?_
      refine xe_block ?_
      have hk4 : k = 4 := by
        have h0 : ¬ ((k : Int) + 1 ≤ 4) := of_decide_eq_false h2
        omega
      subst hk4
      refine x_seq (x_region (id := 16) ?_)
      refine xOps_read bdRead_ok fb27 rfl (tail_ne bad w out) rfl ?_
      refine xOps_cons (oA rfl (Conv.of rfl) rfl) ?_
      refine xOps_nil ?_
      refine x_ret ?_
      repeat first | refine xr_seq ?_ | refine xr_block ?_
      exact finP (.v rfl (Conv.of rfl)) rfl rfl
  · obtain ⟨e1, e2, e3⟩ := runL_pos (show (cutB t 10).2.2 = true by simpa using (show (!(cutB t 10).2.2) = false from h)) (w, out)
    generalize (cutB t 10).2.1 = t2 at e1 e2
    generalize (cutB t 10).1 = ln at e1 e3
    have hln := splitF_part 32 ln
    have hw1 : (wordF (splitF 32 ln) 1).length ≤ 1000000 := by
      unfold wordF
      rw [List.getD_eq_getElem?_getD]
      cases hg : (splitF 32 ln)[1]? with
      | none => simp
      | some y =>
        have := hln y (List.mem_of_getElem? hg)
        simp; omega
    have hll := lineI_len hw.fx (splitF 32 ln)
    refine x_skip ?_
    refine x_seq (x_region (id := 9) ?_)
    refine xOps_cons (oM rfl (Conv.of rfl) rfl) ?_
    refine xOps_cons (oL fb25 (.cons rfl (Conv.of rfl) (.cons rfl (Conv.of rfl) (.nil _))) (split_ct ln 32 (by omega)) (aK rfl rfl (aK rfl rfl aK0)) rfl rfl) ?_
    refine xOps_cons (oLO fb24 (.cons rfl (Conv.of rfl) (.cons rfl (Conv.of rfl) (.nil _))) (execute_ct w hw.fx (splitF 32 ln) hw1) (olsk rfl (olsk rfl ols0)) (kK (by exact obOkW rfl) (kK (by exact bA) k0)) (kK (by exact obOkW rfl) (kK (by exact bA) k0)) rfl (argOb rfl rfl rfl (argOk' rfl rfl argO0)) (fun o ho => by cases ho) rfl) ?_
    refine xOps_write bdWrite_ok fb23 rfl rfl (by omega) rfl ?_
    refine xOps_nil ?_
    refine x_region (id := 10) ?_
    refine xOps_cons (oM rfl (Conv.of rfl) rfl) ?_
    refine xOps_cons (oA rfl (Conv.of rfl) rfl) ?_
    refine xOps_nil ?_
    repeat first | refine xn_seq ?_ | refine xn_block ?_
    exact ⟨t2.length, _, by omega, ⟨t2, (lineI w (splitF 32 ln)).1, out ++ (lineI w (splitF 32 ln)).2, lineI_wok hw _, e1.symm.trans hr, rfl, by rw [List.length_append]; omega, rfl, rfl⟩, Le.mk rfl (tle rfl (rfl) rfl (tle rfl (rfl) rfl (tlb rfl rfl rfl (tlb rfl rfl rfl tln)))) (olk rfl (by exact obOkW rfl) (olk rfl (by exact bA) (olk rfl (by trivial) oln))) (xS (o := 9) rfl)⟩
theorem iLinesRun_ct (bad : Int) (text : List UInt8) : CtP Tryz.prog 15 [.v bad, .v (bs text)] (.v (bs (linesF bad text))) := by
  unfold linesF
  split
  · rename_i hb
    split
    · rename_i hl; exact iLines_ct bad text hb hl
    · rename_i hl; exact iLinesLong_ct bad text hb (by omega)
  · rename_i hb; exact iLinesBad_ct bad text (by simpa using hb)
end Go.Proofs.YtgfoeiieopnlaaaGreatDoor

/- The reference: quiet epochs. -/
set_option linter.unusedVariables false
set_option linter.unusedSimpArgs false
namespace Go.Proofs.YtgfoeiieopnlaaaGreatDoor
open Go Go.Wt
set_option maxHeartbeats 1000000 in
theorem sSpread_ct (w : Wrld) (hw : FineX w) : CtO Tryz.prog 64 [.v (sW w)] (so w) (.v (sW (spreadF w))) (so (spreadF w)) := by
  refine Ct.intro Tryz.func64 rfl rfl ?_
  refine aS (aR ?_)
  refine oC (op_boxm (o := 5) tW rfl rfl rfl rfl) ?_
  refine oC (oX (o := 6) z38_WrldS rfl rfl) ?_
  refine oN ?_
  refine aS (aS (aR ?_))
  refine oC (oA rfl (Conv.of rfl) rfl) ?_
  refine oN ?_
  refine aB ?_
  refine awp_loop' (fun n_ s => ∃ (a : Nat), ∃ (x : Wrld), ∃ (hx : FineX x), ∃ (he : sprF (100 - a) a x = spreadF w), ∃ (hn : n_ + a = 100), s = mkSt 21 [(1, .box 5 (IsLens.whole WrldS)), (2, .box 6 (IsLens.whole WrldS)), (3, .v (a : Int))] [(1, .arr (x.nodes.map sN)), (5, .cell (sW x)), (6, .cell WrldS.zero)]) (100) ⟨0, w, hw, rfl, by omega, rfl⟩ (Le.mk rfl (tlb rfl rfl rfl (tlb rfl rfl rfl (tle rfl (rfl) rfl tln))) (olk rfl (by exact bN) (olk rfl (by exact obOkS rfl) (olk rfl (by exact obOkS0) oln))) (hU (a := so w) rfl)) ?_
  rintro n_ s ⟨a, x, hx, he, hn, rfl⟩
  refine aS (aS (aR ?_))
  refine oC (oM rfl (Conv.of rfl) rfl) ?_
  refine oC (oF f38_2_WrldS rfl rfl) ?_
  refine oC (op_ldl ty36_OListVote rfl rfl rfl) ?_
  refine oC (oE sl36 rfl rfl) ?_
  refine oC (oLt rfl rfl rfl) ?_
  refine oN ?_
  refine aC rfl (fun h => ?_) (fun h => ?_)
  · have ha : a < x.log.length := by simpa [sW] using h
    have hll := hx.ll
    refine aW ?_
    refine aS (aB ?_)
    refine aS (aR ?_)
    refine oC (oA rfl (Conv.of rfl) rfl) ?_
    refine oN ?_
    refine awp_toB (s' := mkSt 21 [(1, .box 5 (IsLens.whole WrldS)), (2, .box 6 (IsLens.whole WrldS)), (3, .v (a : Int))] [(1, .arr ((b4 x a).nodes.map sN)), (5, .cell (sW (b4 x a))), (6, .cell WrldS.zero)]) ?_ ?_
    · refine aB ?_
      refine awp_loop' (fun n_ s => ∃ (k : Nat), ∃ (hk : n_ + k = 4), s = mkSt 21 [(1, .box 5 (IsLens.whole WrldS)), (2, .box 6 (IsLens.whole WrldS)), (3, .v (a : Int)), (4, .v ((k : Int) + 1))] [(1, .arr ((brN x a k).nodes.map sN)), (5, .cell (sW (brN x a k))), (6, .cell WrldS.zero)]) (4) ⟨0, by omega, rfl⟩ (Le.mk rfl (tlb rfl rfl rfl (tlb rfl rfl rfl (tle rfl (rfl) rfl (tle rfl (rfl) rfl tln)))) (olk rfl (by exact bN) (olk rfl (by exact obOkS rfl) (olk rfl (by exact obOkS0) oln))) (hU (a := so w) rfl)) ?_
      rintro n_ s ⟨k, hk, rfl⟩
      refine aS (aS (aR ?_))
      refine oC (oM rfl (Conv.of rfl) rfl) ?_
      refine oC (op_leq rfl rfl rfl) ?_
      refine oN ?_
      refine aC rfl (fun h2 => ?_) (fun h2 => ?_)
      · have hk2 : k < 4 := by simp at h2; omega
        refine aW ?_
        refine aS (aB ?_)
        refine aR ?_
        refine oC (op_ldm tW rfl rfl rfl) ?_
        refine oC (oM rfl (Conv.of rfl) rfl) ?_
        refine oC (oM rfl (Conv.of rfl) rfl) ?_
        refine oC (oLM (s := 16) (pre := []) fb61 (.nil _) rfl (.cons rfl (Conv.of rfl) (.cons rfl (Conv.of rfl) (.nil _))) (l21Bring_ct _ _ _ (brN_ok hx a k)) (olsk rfl ols0) (kK (by exact bN) k0) (kK (by exact bN) k0) rfl argO0 (argOk' rfl rfl (argOk' rfl rfl argO0)) (inOne rfl) (inOne rfl) rfl) ?_
        refine oC (op_stm tW rfl rfl rfl) ?_
        refine oN ?_
        refine aR ?_
        refine oC (oM rfl (Conv.of rfl) rfl) ?_
        refine oC (oP rfl rfl rfl (by omega)) ?_
        refine oC (oA rfl (Conv.of rfl) rfl) ?_
        refine oN ?_
        repeat first | refine nS ?_ | refine nB ?_
        exact ⟨n_ - 1, _, by omega, ⟨k + 1, by omega, rfl⟩, Le.mk rfl (tlb rfl rfl rfl (tlb rfl rfl rfl (tle rfl (rfl) rfl (tle rfl (rfl) rfl tln)))) (olk rfl (by exact bN) (olk rfl (by exact obOkS rfl) (olk rfl (by exact obOkS0) oln))) (hU (a := so w) rfl)⟩
      · refine aE ?_
        repeat refine ex_seq ?_
        refine eB ?_
        have hk4 : k = 4 := by simp at h2; omega
        subst hk4
        all_goals exact Le.mk rfl (tlb rfl rfl rfl (tlb rfl rfl rfl (tle rfl (rfl) rfl tln))) (olk rfl (by exact bN) (olk rfl (by exact obOkS rfl) (olk rfl (by exact obOkS0) oln))) (hU (a := so w) rfl)
    · refine aR ?_
      refine oC (oM rfl (Conv.of rfl) rfl) ?_
      refine oC (oP rfl rfl rfl (by omega)) ?_
      refine oC (oA rfl (Conv.of rfl) rfl) ?_
      refine oN ?_
      repeat first | refine nS ?_ | refine nB ?_
      exact ⟨n_ - 1, _, by omega, ⟨a + 1, b4 x a, b4_ok hx a, (by rw [← he, show 100 - a = (100 - (a + 1)) + 1 by omega, sprF_go ha]), by omega, rfl⟩, Le.mk rfl (tlb rfl rfl rfl (tlb rfl rfl rfl (tle rfl (rfl) rfl tln))) (olk rfl (by exact bN) (olk rfl (by exact obOkS rfl) (olk rfl (by exact obOkS0) oln))) (hU (a := so w) rfl)⟩
  · refine aE ?_
    repeat refine ex_seq ?_
    refine eB ?_
    have ha : ¬ a < x.log.length := by simpa [sW] using h
    rw [sprF_stop ha] at he
    subst he
    refine aS (aR ?_)
    refine oC (op_ldm tW rfl rfl rfl) ?_
    refine oC (op_stm tW rfl rfl rfl) ?_
    refine oN ?_
    refine aT ?_
    repeat first | refine rS ?_ | refine rB ?_
    exact ⟨_, _, res1C (ol := so (spreadF w)) tW rfl rfl (inOne rfl) (olk rfl bN oln) (hU rfl), rfl, rfl⟩
set_option maxHeartbeats 4000000 in
theorem sCalmA_ct (w : Wrld) (pays : List Pay) (h : worldOk w = true) (hp : pays.length ≤ 30) : Ct Tryz.prog 66 [.v w, .v pays] noObj (fun r1 h1 => r1 = .v (sW (pays.foldl calmF w)) ∧ h1 = obs (so (pays.foldl calmF w))) := by
  have hf := (worldOk_iff.1 h).fx
  refine Ct.intro Tryz.func66 rfl rfl ?_
  all_goals refine aS (aR ?_)
  all_goals refine oC (op_box (o := 5) ty38 rfl (Conv.of rfl) rfl rfl) ?_
  all_goals refine oC (oX (o := 6) z38_WrldS rfl rfl) ?_
  all_goals refine oN ?_
  refine aS (aST (s' := mkSt 39 [(1, .v pays), (2, .box 5 (IsLens.whole Wrld)), (4, .box 6 (IsLens.whole WrldS)), (14, .v false)] [(5, .cell w), (6, .cell WrldS.zero)]) ?_ ?_)
  · all_goals refine aR ?_
    all_goals refine oC (oD ty38 rfl rfl rfl) ?_
    all_goals refine oC (oL fb96 (.cons rfl (Conv.of rfl) (.nil _)) (sWorldOk_ct _) (aK rfl rfl aK0) rfl rfl) ?_
    all_goals refine oC (op_not rfl rfl) ?_
    all_goals refine oC (oM rfl (Conv.of rfl) rfl) ?_
    all_goals refine g_split (t := 10) rfl (fun h => ?_) (fun h => ?_)
    all_goals first | refine oC (gF rfl rfl rfl rfl rfl) ?_ | refine oC (gN rfl rfl rfl (oM rfl (Conv.of rfl) rfl)) ?_
    all_goals first | refine oC (gF rfl rfl rfl rfl rfl) ?_ | refine oC (gN rfl rfl rfl (oE sl99 rfl rfl)) ?_
    all_goals first | refine oC (gF rfl rfl rfl rfl rfl) ?_ | refine oC (gN rfl rfl rfl (op_gtr rfl rfl rfl)) ?_
    all_goals refine oC (oQ rfl rfl rfl rfl) ?_
    all_goals refine oN ?_
    all_goals exact Le.mk rfl (tle rfl (rfl) rfl (tlb rfl rfl rfl (tlb rfl rfl rfl (tle rfl (by (show AV.v _ = AV.v _; simp_all; try omega)) rfl tln)))) (olk rfl (by exact bC) (olk rfl (by exact obOkS0) oln)) noS
  refine aC rfl (fun h2 => absurd h2 (by decide)) (fun h2 => ?_)
  refine aW ?_
  all_goals refine aS (aR ?_)
  all_goals refine oC (oD ty38 rfl rfl rfl) ?_
  refine awpOps_callO [] rfl fb97 (.cons rfl (Conv.of rfl) (.nil _)) (l21Copy_ct w hf) ols0 k0 (argOk' rfl rfl argO0) rfl ?_
  rintro r h' ⟨rfl, rfl⟩
  refine ⟨so w, rfl, (fun o ho => by cases ho), fun o ho _ => ?_, kK bN k0, fun o ho => ?_, ?_⟩
  · have : o = 1 := by simpa [keys, lk0] using ho
    subst this; rfl
  · have : o = 1 := by simpa using (show o ∈ [1] from ho)
    subst this; rfl
  all_goals refine oC (oX (o := 0) z38_WrldS rfl rfl) ?_
  all_goals refine oC (op_stm tW rfl rfl rfl) ?_
  all_goals refine oN ?_
  all_goals refine aS (aS (aR ?_))
  all_goals refine oC (oA rfl (Conv.of rfl) rfl) ?_
  all_goals refine oN ?_
  refine aB ?_
  refine awp_loop' (fun n_ s => ∃ (k : Nat), ∃ (hn : n_ + k = pays.length), s = mkSt 39 [(1, .v pays), (4, .box 6 (IsLens.whole WrldS)), (5, .box 0 (IsLens.whole WrldS)), (6, .v (k : Int))] [(1, .arr (((pays.take k).foldl calmF w).nodes.map sN)), (0, .cell (sW ((pays.take k).foldl calmF w))), (6, .cell WrldS.zero)]) (pays.length) ⟨0, by omega, rfl⟩ (Le.mk rfl (tle rfl (rfl) rfl (tlb rfl rfl rfl (tlb rfl rfl rfl (tle rfl (rfl) rfl tln)))) (olk (by rfl) (by exact bN) (olk (by rfl) (by exact obOkS rfl) (olk rfl (by exact obOkS0) oln))) noS) ?_
  rintro n_ s ⟨k, hn, rfl⟩
  have hfine : FineX ((pays.take k).foldl calmF w) := calmFold_ok _ hf
  all_goals refine aS (aS (aR ?_))
  all_goals refine oC (oM rfl (Conv.of rfl) rfl) ?_
  all_goals refine oC (oM rfl (Conv.of rfl) rfl) ?_
  all_goals refine oC (oE sl99 rfl rfl) ?_
  all_goals refine oC (oLt rfl rfl rfl) ?_
  all_goals refine oN ?_
  refine aC rfl (fun h => ?_) (fun h => ?_)
  · have hlt : k < pays.length := by simpa using h
    have hx : pays[k]? = some pays[k] := List.getElem?_eq_getElem hlt
    have hx' : pays[(k : Int).toNat]? = some pays[k] := hx
    refine aW ?_
    refine aS (aB ?_)
    have h1 := tickF_ok hfine
    have h2 := spread_ok h1
    have hep : 1 ≤ (spreadF (tickF ((pays.take k).foldl calmF w))).epoch ∧ (spreadF (tickF ((pays.take k).foldl calmF w))).epoch ≤ 30 := by
      have := hfine.ep
      have e1 : (spreadF (tickF ((pays.take k).foldl calmF w))).epoch = min (((pays.take k).foldl calmF w).epoch + 1) 30 := sprF_ep' 100 0 _
      omega
    all_goals refine aS (aR ?_)
    all_goals refine oC (op_ldm tW rfl rfl rfl) ?_
    all_goals refine oC (oLM (s := 24) (pre := []) fb56 (.nil _) rfl (.nil _) (l21Tick_ct _ hfine.fine) (olsk rfl ols0) (kK (by exact bN) k0) (kK (by exact bN) k0) rfl argO0 argO0 (inOne rfl) (inOne rfl) rfl) ?_
    all_goals refine oC (oLM (s := 25) (pre := []) fb64 (.nil _) rfl (.nil _) (sSpread_ct _ h1) (olsk rfl ols0) (kK (by exact bN) k0) (kK (by exact bN) k0) rfl argO0 argO0 (inOne rfl) (inOne rfl) rfl) ?_
    all_goals refine oC (op_stm tW rfl rfl rfl) ?_
    all_goals refine oN ?_
    refine awp_parkCW (s := 21) (o := 0) (tb := 5) rfl rfl rfl (fun hv => ?_)
    have hld := l3Leader_ct (spreadF (tickF ((pays.take k).foldl calmF w))).epoch (by omega)
    rw [lead_eq hep] at hld
    refine aS ?_
    refine dg_start 9 ?_
    all_goals refine dg_cons (oD ty38_WrldH rfl rfl rfl) ?_
    all_goals refine dg_cons (oF f38_0_WrldH rfl rfl) ?_
    all_goals refine dg_cons (oD ty3 rfl rfl rfl) ?_
    all_goals refine dg_cons (oL fb98 (.cons rfl (Conv.of rfl) (.nil _)) (hld) (aK rfl rfl aK0) rfl rfl) ?_
    all_goals refine dg_cons (oM rfl (Conv.of rfl) rfl) ?_
    all_goals refine dg_cons (oM rfl (Conv.of rfl) rfl) ?_
    all_goals refine dg_cons (op_ix sl99 rfl rfl rfl (by omega) hx') ?_
    all_goals refine dg_cons (oDR ty61 rfl rfl) ?_
    refine dg_cons (op_callPW (s := 27) (r := 21) (ol := so (spreadF (tickF ((pays.take k).foldl calmF w)))) rfl fb57 rfl rfl (.cons rfl (Conv.of rfl) (.cons rfl (Conv.of rfl) (.nil _))) (l21Propose_ct _ _ _ h2) (olsk rfl ols0) (kK bN k0) (kK bN k0) rfl (argOk' rfl rfl (argOk' rfl rfl argO0)) (inOne rfl) (inOne rfl) rfl) ?_
    refine dg_bar (fun _ : Unit => _) mixed rfl rfl (recell (o := 0) (tb := 5) (β := WrldS) rfl rfl (fun G w ω cs hh => wrlH_fW hh)) (fun _ => ?_)
    refine dg_cons (op_stm tW rfl rfl rfl) ?_
    refine dg_nil rfl ?_
    have h3 := wproposeF_ok (id := leader (spreadF (tickF ((pays.take k).foldl calmF w))).epoch) (p := pays[k]) h2
    all_goals refine aR ?_
    all_goals refine oC (op_ldm tW rfl rfl rfl) ?_
    all_goals refine oC (oLM (s := 36) (pre := []) fb64 (.nil _) rfl (.nil _) (sSpread_ct _ h3) (olsk rfl ols0) (kK (by exact bN) k0) (kK (by exact bN) k0) rfl argO0 argO0 (inOne rfl) (inOne rfl) rfl) ?_
    all_goals refine oC (op_stm tW rfl rfl rfl) ?_
    all_goals refine oN ?_
    all_goals refine aR ?_
    all_goals refine oC (oM rfl (Conv.of rfl) rfl) ?_
    all_goals refine oC (oP rfl rfl rfl (by omega)) ?_
    all_goals refine oC (oA rfl (Conv.of rfl) rfl) ?_
    all_goals refine oN ?_
    repeat first | refine nS ?_ | refine nB ?_
    exact ⟨n_ - 1, _, by omega, ⟨k + 1, by omega, rfl⟩, Le.mk rfl (tle rfl (rfl) rfl (tlb rfl rfl rfl (tlb rfl rfl rfl (tle rfl (rfl) rfl tln)))) (olk (by (rw [foldl_at calmF _ hx]; rfl)) (by exact bN) (olk (by (rw [foldl_at calmF _ hx]; rfl)) (by exact obOkS rfl) (olk rfl (by exact obOkS0) oln))) noS⟩
  · refine aE ?_
    repeat refine ex_seq ?_
    refine eB ?_
    have hk : pays.length ≤ k := by simpa using h
    have hp2 : (pays.take k).foldl calmF w = pays.foldl calmF w := by rw [take_end hk]
    rw [hp2] at hfine ⊢
    all_goals refine aS (aR ?_)
    all_goals refine oC (op_ldm tW rfl rfl rfl) ?_
    all_goals refine oC (op_stm tW rfl rfl rfl) ?_
    all_goals refine oN ?_
    refine aT ?_
    repeat first | refine rS ?_ | refine rB ?_
    exact ⟨_, _, res1C (ol := so (pays.foldl calmF w)) tW rfl rfl (inOne rfl) (olk rfl bN oln) noS, rfl, rfl⟩
end Go.Proofs.YtgfoeiieopnlaaaGreatDoor

/- A world whose room is parked: stores; parts of results. -/
set_option linter.unusedVariables false
set_option linter.unusedSimpArgs false
namespace Go.Wt
open Go
variable {P : Program} {S : Nat → Prop} {ops : Array Oper} {st : St}
/-- A world seen with its log's header by name. -/
def hW (w : Wrld) (hv : Value) : WrldH := ⟨w.epoch, .ref 1, ⟨w.log, hv⟩, w.bad⟩
theorem hW_conv {w : Wrld} {hv : Value} : Conv (.v (hW w hv)) (.v (fW w)) := fun {G wd ω ω' u} ⟨cs, h1, h2⟩ => ⟨cs, by
  have := wrlH_fW h1
  obtain ⟨c1, c2, rfl, r1, ⟨c3, c4, rfl, r3, ⟨c5, c6, rfl, ⟨a, cap, q1, q2, q3, q4⟩, r6⟩⟩⟩ := this
  exact ⟨c1, _, rfl, r1, c3, _, rfl, r3, c5, _, rfl, ⟨a, cap, q1, q2, q3, fun h => by cases h⟩, r6⟩, h2⟩
/-- A store that takes a world whose room is parked. -/
theorem op_stPW {T pos aft} {x : Operand} {o s r : Nat} {w : Wrld} {hv : Value} {c : WrldS} {t : TypeId} (hne : Nat.beq s r = false) (ty : TyOk P t WrldS) (hs : st.tm s = some (.v (hW w hv))) (hq : st.tm r = some (.v (Room.mk (α := Vote) hv true)))
    (hx : (st.upd [(s, some (.v (sW w))), (r, none), (r, none)] []).ev x = some (.box o (IsLens.whole WrldS))) (ho : st.ob o = .cell c) :
    OpOk P S ops ⟨none, .store t x (.tmp s), T, pos, aft, none⟩ ([s, r] ++ (opT x ++ [s])) [o] ([(s, some (.v (Enc.dis (sW w))))] ++ [(s, some (.v (sW w))), (r, none), (r, none)]) [(o, .cell (sW w))] st :=
  OpOk.pre (op_stm ty hx (by simp [St.upd, lk, orr]) ho) fun st1 hag G wd a hr =>
    ⟨_, unparkW (s := r) (fun e => by rw [e] at hne; simp at hne) hr (by rw [hag.tm s (by simp)]; exact hs) (by rw [hag.tm r (by simp)]; exact hq), Keep.mv S (by simp) (by simp)⟩
/-! ### A world whose log's header is an object's -/
structure WrldR where
  epoch : Int
  nodes : NRef
  log : NRef
  bad : Int
instance : Enc WrldR := isoEnc (fun p => (p.epoch, p.nodes, p.log, p.bad)) (fun q => ⟨q.1, q.2.1, q.2.2.1, q.2.2.2⟩) (fun _ => rfl) true (fun h => by cases h)
instance : Disl WrldR := ⟨fun _ => rfl⟩
def rW (w : Wrld) (o : Nat) : WrldR := ⟨w.epoch, .ref 1, .ref o, w.bad⟩
theorem emitW_core {G : Gh} {wd : Go.World} {a : Act} {d r o' : Nat} {w : Wrld} {c : Bool} {β : Type} [Enc β] [Plain β] {y : β} (hne : d ≠ r) (hr : RelSt G wd a st) (ht : st.tm d = some (.tup [.v (sW w), .v y])) (hq : st.tm r = some (.v c)) (hf : st.ob o' = .free) :
    ∃ G', RelSt G' wd a (st.upd [(d, some (.tup [.v (rW w o'), .v y])), (r, some (.v (RoomO.mk o' w.log true)))] [(o', .dead)]) ∧ Keep S G wd G' wd := by
  have h1 := hr.tmps d
  rw [ht] at h1
  obtain ⟨us, e0, u1, r1, e1, ⟨cs, ⟨c1, c2, ec, q1, ⟨c3, c4, ec2, q3, ⟨c5, c6, ec3, ⟨aa, cap, g1, g2, g3, g4⟩, q6⟩⟩⟩, k2⟩, u2, r2, e2, ⟨cs2, k3, k4⟩, k7⟩ := h1
  have hn0 : G.hdr o' = none := by have := hr.objs o'; rw [hf] at this; exact this
  have h0 := hr.sethdr (o := o') hf (.slice aa w.log.length cap) (x := .dead) trivial
  have hc : a.tmps.getD r undef = .bool c := by have := hr.tmps r; rw [hq] at this; exact RelV.bool this
  have hhd : (G.hd o' (.slice aa w.log.length cap)).hdr o' = some (.slice aa w.log.length cap) := by simp [Gh.hd]
  have hm : ∀ k v, G.hdr k = some v → (G.hd o' (.slice aa w.log.length cap)).hdr k = some v := fun k v hv => by
    have hne : k ≠ o' := by rintro rfl; rw [hn0] at hv; cases hv
    simp [Gh.hd, hne, hv]
  have hsh : Sh G wd ((G.hd o' (.slice aa w.log.length cap)).mv (.tmp d, [0, 1, 1, 0]) (.tmp r, [])) wd := fun b i v h1 h2 => Sh.mv b i v h1 h2
  refine ⟨(G.hd o' (.slice aa w.log.length cap)).mv (.tmp d, [0, 1, 1, 0]) (.tmp r, []), ⟨hr.defers, hr.size, fun q => ?_, fun k => ?_⟩, (Keep.hd hn0).trans (Keep.mv S (by simp) (by simp))⟩
  · show RelT _ _ _ (orr (lk [(d, _), (r, _)] q) (st.tm q)) (a.tmps.getD q undef)
    simp only [lk]
    by_cases eq : q = d
    · subst eq
      rw [if_pos rfl]
      exact ⟨us, e0, u1, r1, e1, ⟨cs, ⟨c1, _, ec, q1, c3, _, ec2, Disl.mono (x := NRef.ref 1) hsh (fun o _ v hv => hm o v hv) q3, c5, _, ec3, ⟨aa, _, cap, g1, hhd⟩, q6⟩, k2⟩, u2, r2, e2, ⟨cs2, Plain.mono hsh k3, k4⟩, k7⟩
    · rw [if_neg eq]
      by_cases eq2 : q = r
      · subst eq2
        rw [if_pos rfl, hc]
        refine ⟨[.bool c], ⟨⟨_, rfl, rfl⟩, aa, cap, hhd, g2, g3.mono hsh, fun _ => ?_⟩, rfl⟩
        have := (g4 rfl).mono (G' := (G.hd o' (.slice aa w.log.length cap)).mv (.tmp d, [0, 1, 1, 0]) (.tmp q, [])) (ω' := (.tmp q, [])) (fun bb i π v hno m1 m2 => by
          have := Ow.mv_src (G := G.hd o' (.slice aa w.log.length cap)) (w := wd) (s := (.tmp d, [0, 1, 1, 0])) (d := (.tmp q, [])) bb i π v hno (by simpa [Owner.sub, Gh.hd] using m1) m2
          exact this)
        exact this
      · rw [if_neg eq2]
        have := h0.tmps q
        exact this.mono Sh.mv (Ow.mv_other (by simpa using eq) (by simpa using eq2)) (fun _ _ _ h => h)
  · have := h0.objs k
    show RelO _ _ k (orr (lk [(o', _)] k) (st.ob k))
    obtain ⟨T', hT⟩ := Obj.refs_all ((st.upd [] [(o', Obj.dead)]).ob k)
    exact this.pres Sh.mv (fun _ _ _ h => h) hT (PresO.mv (by simp) (by simp) (by simp) (by simp))
theorem OpOk.emitW {o0 : Oper} {rt ro wt wo} {d o' : Nat} (r : Nat) {w : Wrld} {c : Bool} {β : Type} [Enc β] [Plain β] {y : β} (h : OpOk P S ops o0 rt ro wt wo st) (hd : lk wt d = some (some (.tup [.v (sW w), .v y]))) (hr : st.tm r = some (.v c)) (hr' : (lk wt r).isNone = true) (hf : st.ob o' = .free) (hf' : (lk wo o').isNone = true) :
    OpOk P S ops o0 ([r] ++ rt) ([o'] ++ ro) ([(d, some (.tup [.v (rW w o'), .v y])), (r, some (.v (RoomO.mk o' w.log true)))] ++ wt) ([(o', .dead)] ++ wo) st :=
  OpOk.post h fun st1 hag G wd a hrs => emitW_core (fun e => by subst e; rw [hd] at hr'; cases hr') hrs (by show orr (lk wt d) _ = _; rw [hd]; rfl) (by
    show orr (lk wt r) _ = _
    rw [Option.isNone_iff_eq_none.1 hr']
    show st1.tm r = _
    rw [hag.tm r (by simp)]; exact hr) (by
    show orr (lk wo o') _ = _
    rw [Option.isNone_iff_eq_none.1 hf']
    show st1.ob o' = _
    rw [hag.ob o' (by simp)]; exact hf)
theorem absorbW_core {G : Gh} {wd : Go.World} {a : Act} {s r o' : Nat} {w : Wrld} (hne : s ≠ r) (hr : RelSt G wd a st) (hs : st.tm s = some (.v (rW w o'))) (hq : st.tm r = some (.v (RoomO.mk o' w.log true))) :
    RelSt (G.mv (.tmp r, []) (.tmp s, [1, 1, 0])) wd a (st.upd [(s, some (.v (sW w))), (r, some (.v (RoomO.mk o' w.log false)))] []) := by
  have h1 := hr.tmps s
  rw [hs] at h1
  obtain ⟨cs, ⟨c1, c2, rfl, r1, ⟨c3, c4, rfl, r3, ⟨c5, c6, rfl, ⟨aa, m, cap, g1, g2⟩, r6⟩⟩⟩, q2⟩ := h1
  have h2 := hr.tmps r
  rw [hq] at h2
  obtain ⟨ds, ⟨d0, a2, cap2, d1, d2, d3, d4⟩, d5⟩ := h2
  have d1' : G.hdr o' = some (.slice a2 w.log.length cap2) := d1
  rw [show G.hdr o' = _ from g2] at d1'
  injection d1' with d1'
  injection d1' with e1 e2 e3
  subst e1 e2 e3
  refine ⟨hr.defers, hr.size, fun q => ?_, fun k => ?_⟩
  · show RelT _ _ _ (orr (lk [(s, _), (r, _)] q) (st.tm q)) (a.tmps.getD q undef)
    simp only [lk]
    by_cases eq : q = s
    · subst eq
      rw [if_pos rfl]
      refine ⟨_, ⟨c1, _, rfl, r1, c3, _, rfl, Disl.mono (x := NRef.ref 1) Sh.mv (fun _ _ _ h => h) r3, c5, _, rfl, ⟨aa, cap, g1, d2, d3.mono Sh.mv, fun _ => ?_⟩, r6⟩, q2⟩
      have := (d4 rfl).mono (Ow.mv_src (G := G) (w := wd) (s := (.tmp r, [])) (d := (.tmp q, [1, 1, 0])))
      simpa [Owner.sub, sW] using this
    · rw [if_neg eq]
      by_cases e2 : q = r
      · subst e2
        rw [if_pos rfl]
        exact ⟨ds, ⟨d0, _, _, g2, d2, d3.mono Sh.mv, fun k => by cases k⟩, d5⟩
      · rw [if_neg e2]
        exact (hr.tmps q).mono Sh.mv (Ow.mv_other (by simpa using e2) (by simpa using eq)) (fun _ _ _ h => h)
  · obtain ⟨T', hT⟩ := Obj.refs_all (st.ob k)
    exact (hr.objs k).pres Sh.mv (fun _ _ _ h => h) hT (PresO.mv (by simp) (by simp) (by simp) (by simp))
/-- A store of a world whose log is an object's row. -/
theorem op_stRW {T pos aft} {x : Operand} {o s o' : Nat} (r : Nat) {w : Wrld} {c : WrldS} {t : TypeId} (hne : Nat.beq s r = false) (ty : TyOk P t WrldS) (hs : st.tm s = some (.v (rW w o'))) (hq : st.tm r = some (.v (RoomO.mk o' w.log true)))
    (hx : (st.upd [(s, some (.v (sW w))), (r, some (.v (RoomO.mk o' w.log false)))] []).ev x = some (.box o (IsLens.whole WrldS))) (ho : st.ob o = .cell c) :
    OpOk P S ops ⟨none, .store t x (.tmp s), T, pos, aft, none⟩ ([s, r] ++ (opT x ++ [s])) [o] ([(s, some (.v (Enc.dis (sW w))))] ++ [(s, some (.v (sW w))), (r, some (.v (RoomO.mk o' w.log false)))]) [(o, .cell (sW w))] st :=
  OpOk.pre (op_stm ty hx (by simp [St.upd, lk, orr]) ho) fun st1 hag G wd a hr =>
    ⟨_, absorbW_core (fun e => by rw [e] at hne; simp at hne) hr (by rw [hag.tm s (by simp)]; exact hs) (by rw [hag.tm r (by simp)]; exact hq), Keep.mv S (by simp) (by simp)⟩
/-- A store of another kind of value into the whole of a variable. -/
theorem op_stS {T pos aft} {o s tb : Nat} {α β : Type} [Enc α] [Enc β] {c : α} {y : β} {t : TypeId} (ty : TyOk P t β) (hsz : Enc.size α = Enc.size β) (hx : st.tm tb = some (.box o (IsLens.whole α))) (hy : st.tm s = some (.v y)) (ho : st.ob o = .cell c) :
    OpOk P S ops ⟨none, .store t (.tmp tb) (.tmp s), T, pos, aft, none⟩ [tb, s] [o] [(s, some (.v (Enc.dis y))), (tb, some (.box o (IsLens.whole β)))] [(o, .cell y)] st := by
  intro st1 hag G w a hr K Q hK
  unfold stepO
  rw [if_pos (by simp [Region.wanted])]
  refine .inl ?_
  have htb : st1.tm tb = some (.box o (IsLens.whole α)) := by rw [hag.tm tb (by simp)]; exact hx
  have hb := hr.tmps tb
  rw [htb] at hb
  obtain ⟨b, h1, h2⟩ := hb
  have hts : st1.tm s = some (.v y) := by rw [hag.tm s (by simp)]; exact hy
  have hv := hr.tmps s
  rw [hts] at hv
  obtain ⟨ds, k1, k2⟩ := hv
  have hob := hr.objs o
  rw [hag.ob o (by simp), ho] at hob
  obtain ⟨b', cs, te, m1, m2, m3, m4⟩ := hob
  have : b' = b := by rw [h1] at m1; simpa using m1.symm
  subst this
  have hl := Enc.len m3
  have hdl := Enc.len k1
  have hrun := run_store_rd (P := P) (off := 0) ty k1 m2 (by omega)
  have e1 : cs.take 0 ++ ds ++ cs.drop (0 + Enc.size β) = ds := by
    have : cs.drop (0 + Enc.size β) = [] := List.drop_eq_nil_of_le (by omega)
    rw [this]; simp
  rw [e1] at hrun
  have hw : Wr G w o b' cs ds te := ⟨m2, m4, by omega, by have := Enc.size_pos (α := α); omega⟩
  have hk2 : a.eval (.tmp s) = Enc.val β ds := k2
  have hk3 : a.eval (.tmp tb) = .pointer (some ⟨b', 0, none⟩) := h2
  have hc : (execOp a.eval ⟨none, .store t (.tmp tb) (.tmp s), T, pos, aft, none⟩).run P w = .ok .skip (w.setRow b' ds.toArray) := by
    simp only [execOp, hk3, hk2, Instr.storeAt, Instr.sureAddr, Sem.run_bind, Sem.run_pure, Result.andThen_ok, hrun]
  unfold Oper.wp
  rw [hc]
  simp only [Oper.upon, Act.put]
  have h1' := hr.write hw (x' := .dead) trivial
  have h2' := h1'.mvt (s := s) (D := (.obj o, [])) (av := .v y) hts (by simp) (fun k hk _ => by
    intro e'
    injection e' with e'
    subst e'
    exact hk (by simp [St.upd, lk, orr])) (by simp)
  have hsh : Sh G w (G.mv (.tmp s, []) (.obj o, [])) (w.setRow b' ds.toArray) := hw.sh.trans Sh.mv
  have h3' := h2'.setob (o := o) (x := .cell y) ⟨b', ds, te, m1, setRow_heap _ _ _ _ _ _ m2, (by
    refine Enc.mono hsh (fun bb i π v hno q1 q2 => ?_) (fun _ _ _ h => h) k1
    obtain ⟨r1, r2, r3⟩ := hw.ow (ω := (.tmp s, [])) (by simp) bb i π v hno q1 q2
    obtain ⟨s1, s2, s3⟩ := Ow.mv_src (s := (.tmp s, [])) (d := (.obj o, [])) bb i π v id r1 r2
    exact ⟨s1, s2, fun hh => s3 (r3 hh)⟩), fun i hi => by
    have := m4 i (by omega)
    simp [Gh.mv, this, relab]⟩
  refine hK _ _ _ ⟨h3'.defers, h3'.size, fun q => ?_, fun k => ?_⟩ ((hw.keep S).trans (Keep.mv (s := (.tmp s, [])) (d := (.obj o, [])) S (by simp) (by simp)))
  · have hq := h3'.tmps q
    have hq' : RelT (G.mv (.tmp s, []) (.obj o, [])) (w.setRow b' ds.toArray) (.tmp q, []) (orr (lk [(s, some (AV.dis (.v y)))] q) (st1.tm q)) (a.tmps.getD q undef) := hq
    show RelT _ _ _ (orr (lk [(s, some (AV.v (Enc.dis y))), (tb, some (.box o (IsLens.whole β)))] q) (st1.tm q)) _
    simp only [lk] at hq' ⊢
    by_cases es : q = s
    · rw [if_pos es] at hq' ⊢
      exact hq'
    · rw [if_neg es] at hq' ⊢
      by_cases et : q = tb
      · subst et
        rw [if_pos rfl]
        exact ⟨b', m1, h2⟩
      · rw [if_neg et]
        exact hq'
  · have hk := h3'.objs k
    have hk' : RelO (G.mv (.tmp s, []) (.obj o, [])) (w.setRow b' ds.toArray) k (orr (lk [(o, Obj.cell y)] k) (orr (lk [(o, Obj.dead)] k) (st1.ob k))) := hk
    show RelO _ _ k (orr (lk [(o, Obj.cell y)] k) (st1.ob k))
    simp only [lk] at hk' ⊢
    by_cases ek : k = o
    · rw [if_pos ek] at hk' ⊢
      exact hk'
    · simp only [if_neg ek, orr] at hk' ⊢
      exact hk'
end Go.Wt

/- The reference does a line. -/
set_option linter.unusedVariables false
set_option linter.unusedSimpArgs false
namespace Go.Proofs.YtgfoeiieopnlaaaGreatDoor
open Go Go.Wt
def tickB : List UInt8 := [116, 105, 99, 107]
def calmB : List UInt8 := [99, 97, 108, 109]
set_option maxHeartbeats 4000000 in
theorem l31Line_ct (w : Wrld) (hw : FineX w) (line : List UInt8) (hl : line.length ≤ 1000) (hc : ¬ wordF (splitF 32 line) 0 = [99, 97, 108, 109]) : CtO Tryz.prog 30 [.v (sW w), .v (bs line)] (so w) (.tup [.v (sW (lineS w (splitF 32 line)).1), .v (bs (lineS w (splitF 32 line)).2)]) (so (lineS w (splitF 32 line)).1) := by
  have hcut := l1Cut_ct line 32 (by omega)
  have hpt := splitF_part 32 line
  have hne := splitF_ne 32 line
  generalize splitF 32 line = ws at hc hcut hpt hne ⊢
  have hw1 : ∀ k, (wordF ws k).length ≤ 1000 := fun k => by
    unfold wordF
    rw [List.getD_eq_getElem?_getD]
    cases hg : ws[k]? with
    | none => simp
    | some y =>
      have := hpt y (List.mem_of_getElem? hg)
      simp; omega
  have hx0 : (ws.map bs)[(0 : Int).toNat]? = some (bs (wordF ws 0)) := by
    match ws, hne with
    | a :: r, _ => rfl
  have h4 := hw.four
  have hll := hw.ll
  unfold lineS
  refine Ct.intro Tryz.func30 rfl rfl ?_
  refine aS (aR ?_)
  refine oC (op_boxm (o := 5) tW rfl rfl rfl rfl) ?_
  refine oC (oX (o := 6) z38_WrldS rfl rfl) ?_
  refine oC (oA rfl (Conv.of rfl) rfl) ?_
  refine oN ?_
  refine aS (aR ?_)
  refine oC (oM rfl (Conv.of rfl) rfl) ?_
  refine oC (oL fb29 (.cons rfl (Conv.of rfl) (.cons rfl (Conv.of rfl) (.nil _))) (hcut) (aK rfl rfl (aK rfl rfl aK0)) rfl rfl) ?_
  refine oC (oA rfl (Conv.of rfl) rfl) ?_
  refine oN ?_
  refine aS (aS (aR ?_))
  refine oC (oM rfl (Conv.of rfl) rfl) ?_
  refine oC (op_ix sl29 rfl rfl rfl (by omega) hx0) ?_
  refine oC (oDR ty9 rfl rfl) ?_
  refine oN ?_
  have hat := l31At_ct ws 1
  have hat2 := l31At_ct ws 2
  have hwd := l31Word_ct ws 1
  have hwd2 := l31Word_ct ws 2
  have hb1 := hw1 1
  generalize hv0 : wordF ws 0 = v0 at hc ⊢
  refine aB ?_
  refine aS (aR ?_)
  refine oC (op_eqls rfl rfl rfl) ?_
  refine oC (oA rfl (Conv.of rfl) rfl) ?_
  refine oN ?_
  refine aC rfl (fun h => ?_) (fun h => ?_)
  · rw [if_pos (of_decide_eq_true h)]
    refine aS (aR ?_)
    refine oC (op_ldm tW rfl rfl rfl) ?_
    refine oC (oLM (s := 17) (pre := []) fb56 (.nil _) rfl (.nil _) (l21Tick_ct _ hw.fine) (olsk rfl ols0) (kK (by exact bN) k0) (kK (by exact bN) k0) rfl argO0 argO0 (inOne rfl) (inOne rfl) rfl) ?_
    refine oC (op_stm tW rfl rfl rfl) ?_
    refine oC (oA rfl (Conv.of rfl) rfl) ?_
    refine oN ?_
    refine aT ?_
    repeat first | refine rS ?_ | refine rB ?_
    exact ⟨_, _, rNM (ol := so (tickF w)) (.cell tW rfl rfl (.keep (.v rfl (Conv.of rfl)) (.nil _))) rfl (inOne rfl) (olk rfl bN oln) (hU rfl), rfl, rfl⟩
  rw [if_neg (of_decide_eq_false h)]
  refine aS (aR ?_)
  refine oC (op_eqls rfl rfl rfl) ?_
  refine oC (oA rfl (Conv.of rfl) rfl) ?_
  refine oN ?_
  refine aC rfl (fun h => ?_) (fun h => ?_)
  · rw [if_pos (of_decide_eq_true h)]
    refine aS (dS ?_)
    refine dC (op_ldm tW rfl rfl rfl) ?_
    refine dC (oM rfl (Conv.of rfl) rfl) ?_
    refine dC (oL fb58 (.cons rfl (Conv.of rfl) (.cons rfl (Conv.of rfl) (.nil _))) (hat) (aK rfl rfl (aK rfl rfl aK0)) rfl rfl) ?_
    refine dC (oM rfl (Conv.of rfl) rfl) ?_
    refine dC (oL fb60 (.cons rfl (Conv.of rfl) (.cons rfl (Conv.of rfl) (.nil _))) (hwd2) (aK rfl rfl (aK rfl rfl aK0)) rfl rfl) ?_
    refine dC (oL fb59 (.cons rfl (Conv.of rfl) (.nil _)) (l1Pay_ct _) (aK rfl rfl aK0) rfl rfl) ?_
    refine dC (oLM (s := 21) (pre := []) fb57 (.nil _) rfl (.cons rfl (Conv.of rfl) (.cons rfl (Conv.of rfl) (.nil _))) (l21Propose_ct _ _ _ hw) (olsk rfl ols0) (kK (by exact bN) k0) (kK (by exact bN) k0) rfl argO0 (argOk' rfl rfl (argOk' rfl rfl argO0)) (inOne rfl) (inOne rfl) rfl) ?_
    refine dC (op_stm tW rfl rfl rfl) ?_
    refine dC (oA rfl (Conv.of rfl) rfl) ?_
    refine dr_nil mixed rfl ?_
    refine aT ?_
    repeat first | refine rS ?_ | refine rB ?_
    exact ⟨_, _, rNM (ol := so (wproposeF w (numF (wordF ws 1)) (payS (wordF ws 2)))) (.cell tW rfl rfl (.keep (.v rfl (Conv.of rfl)) (.nil _))) rfl (inOne rfl) (olk rfl bN oln) (hU rfl), rfl, rfl⟩
  rw [if_neg (of_decide_eq_false h)]
  refine aS (aR ?_)
  refine oC (op_eqls rfl rfl rfl) ?_
  refine oC (oA rfl (Conv.of rfl) rfl) ?_
  refine oN ?_
  refine aC rfl (fun h => ?_) (fun h => ?_)
  · rw [if_pos (of_decide_eq_true h)]
    refine aS (dS ?_)
    refine dC (op_ldm tW rfl rfl rfl) ?_
    refine dC (oM rfl (Conv.of rfl) rfl) ?_
    refine dC (oL fb58 (.cons rfl (Conv.of rfl) (.cons rfl (Conv.of rfl) (.nil _))) (hat) (aK rfl rfl (aK rfl rfl aK0)) rfl rfl) ?_
    refine dC (oM rfl (Conv.of rfl) rfl) ?_
    refine dC (oL fb58 (.cons rfl (Conv.of rfl) (.cons rfl (Conv.of rfl) (.nil _))) (hat2) (aK rfl rfl (aK rfl rfl aK0)) rfl rfl) ?_
    refine dC (oLM (s := 30) (pre := []) fb61 (.nil _) rfl (.cons rfl (Conv.of rfl) (.cons rfl (Conv.of rfl) (.nil _))) (l21Bring_ct _ _ _ hw) (olsk rfl ols0) (kK (by exact bN) k0) (kK (by exact bN) k0) rfl argO0 (argOk' rfl rfl (argOk' rfl rfl argO0)) (inOne rfl) (inOne rfl) rfl) ?_
    refine dC (op_stm tW rfl rfl rfl) ?_
    refine dC (oA rfl (Conv.of rfl) rfl) ?_
    refine dr_nil mixed rfl ?_
    refine aT ?_
    repeat first | refine rS ?_ | refine rB ?_
    exact ⟨_, _, rNM (ol := so (wbringF w (numF (wordF ws 1)) (numF (wordF ws 2)))) (.cell tW rfl rfl (.keep (.v rfl (Conv.of rfl)) (.nil _))) rfl (inOne rfl) (olk rfl bN oln) (hU rfl), rfl, rfl⟩
  rw [if_neg (of_decide_eq_false h)]
  refine aS (aR ?_)
  refine oC (op_eqls rfl rfl rfl) ?_
  refine oC (oA rfl (Conv.of rfl) rfl) ?_
  refine oN ?_
  refine aC rfl (fun h => ?_) (fun h => ?_)
  · rw [if_pos (of_decide_eq_true h)]
    refine awp_parkCW (s := 36) (o := 5) (tb := 2) rfl rfl rfl (fun hv => ?_)
    refine aS (dS ?_)
    refine dC (oD ty38_WrldH rfl rfl rfl) ?_
    refine dC (oF f38_3_WrldH rfl rfl) ?_
    refine dC (oD ty3 rfl rfl rfl) ?_
    refine dC (oM rfl (Conv.of rfl) rfl) ?_
    refine dC (oL fb60 (.cons rfl (Conv.of rfl) (.cons rfl (Conv.of rfl) (.nil _))) (hwd) (aK rfl rfl (aK rfl rfl aK0)) rfl rfl) ?_
    refine dC (oL fb63 (.cons rfl (Conv.of rfl) (.nil _)) (l31Chain_ct _ (by omega)) (aK rfl rfl aK0) rfl rfl) ?_
    refine dC (op_build (.cons f78_0 rfl (Conv.of rfl) (.cons f78_1 rfl (Conv.of rfl) (.nil _))) z78 rfl pl78 rfl) ?_
    refine dC (op_build (.cons f80_0 rfl (Conv.of rfl) (.cons f80_4 rfl (Conv.of rfl) (.nil _))) z80 rfl pl80 rfl) ?_
    refine dC (op_callPW (s := 38) (r := 36) (ol := so w) rfl fb62 rfl rfl (.cons rfl (Conv.of rfl) (.nil _)) (l21Do_ct w ⟨4, 0, 0, .zero, ⟨w.bad, chainS (wordF ws 1)⟩⟩ hw) (olsk rfl ols0) (kK bN k0) (kK bN k0) rfl (argOk' rfl rfl argO0) (inOne rfl) (inOne rfl) rfl) ?_
    refine dC (op_stm tW rfl rfl rfl) ?_
    refine dC (oA rfl (Conv.of rfl) rfl) ?_
    refine dr_nil mixed rfl ?_
    refine aT ?_
    repeat first | refine rS ?_ | refine rB ?_
    exact ⟨_, _, rNM (ol := so (doF w ⟨4, 0, 0, .zero, ⟨w.bad, chainS (wordF ws 1)⟩⟩)) (.cell tW rfl rfl (.keep (.v rfl (Conv.of rfl)) (.nil _))) rfl (inOne rfl) (olk rfl bN oln) (hU rfl), rfl, rfl⟩
  rw [if_neg (of_decide_eq_false h)]
  refine aS (aR ?_)
  refine oC (op_eqls rfl rfl rfl) ?_
  refine oC (oA rfl (Conv.of rfl) rfl) ?_
  refine oN ?_
  refine aC rfl (fun h => ?_) (fun h => ?_)
  · rw [if_pos (of_decide_eq_true h)]
    refine aS (aR ?_)
    refine oC (op_ldm tW rfl rfl rfl) ?_
    refine oC (oLM (s := 49) (pre := []) fb64 (.nil _) rfl (.nil _) (sSpread_ct _ hw) (olsk rfl ols0) (kK (by exact bN) k0) (kK (by exact bN) k0) rfl argO0 argO0 (inOne rfl) (inOne rfl) rfl) ?_
    refine oC (op_stm tW rfl rfl rfl) ?_
    refine oC (oA rfl (Conv.of rfl) rfl) ?_
    refine oN ?_
    refine aT ?_
    repeat first | refine rS ?_ | refine rB ?_
    exact ⟨_, _, rNM (ol := so (spreadF w)) (.cell tW rfl rfl (.keep (.v rfl (Conv.of rfl)) (.nil _))) rfl (inOne rfl) (olk rfl bN oln) (hU rfl), rfl, rfl⟩
  rw [if_neg (of_decide_eq_false h)]
  refine aS (aR ?_)
  refine oC (op_eqls rfl rfl rfl) ?_
  refine oC (oA rfl (Conv.of rfl) rfl) ?_
  refine oN ?_
  refine aC rfl (fun h => absurd (of_decide_eq_true h) hc) (fun h => ?_)
  rw [if_neg hc]
  refine aS (aR ?_)
  refine oC (op_eqls rfl rfl rfl) ?_
  refine oC (oA rfl (Conv.of rfl) rfl) ?_
  refine oN ?_
  refine aC rfl (fun h => ?_) (fun h => ?_)
  · rw [if_pos (of_decide_eq_true h)]
    generalize numF (wordF ws 1) = n at hat ⊢
    refine aS (aR ?_)
    refine oC (oM rfl (Conv.of rfl) rfl) ?_
    refine oC (oL fb58 (.cons rfl (Conv.of rfl) (.cons rfl (Conv.of rfl) (.nil _))) (hat) (aK rfl rfl (aK rfl rfl aK0)) rfl rfl) ?_
    refine oC (oL fb54 (.cons rfl (Conv.of rfl) (.cons rfl (Conv.of rfl) (.cons rfl (Conv.of rfl) (.nil _)))) (l6In_ct _ _ _) (aK rfl rfl (aK rfl rfl (aK rfl rfl aK0))) rfl rfl) ?_
    refine oN ?_
    refine aC rfl (fun h2 => ?_) (fun h2 => ?_)
    · have hid : 1 ≤ n ∧ n ≤ 4 := by simpa [within] using h2
      have hxn : w.nodes[(n - 1).toNat]? = some (w.nodes.getD (n - 1).toNat .zero) := by
        rw [List.getD_eq_getElem?_getD, List.getElem?_eq_getElem (by omega)]; rfl
      rw [if_pos h2]
      refine awp_parkCW (s := 78) (o := 5) (tb := 2) rfl rfl rfl (fun hv => ?_)
      refine aS (dS ?_)
      refine dC (oD ty38_WrldH rfl rfl rfl) ?_
      refine dC (oD ty38_WrldH rfl rfl rfl) ?_
      refine dC (oM rfl (Conv.of rfl) rfl) ?_
      refine dC (oL fb58 (.cons rfl (Conv.of rfl) (.cons rfl (Conv.of rfl) (.nil _))) (hat) (aK rfl rfl (aK rfl rfl aK0)) rfl rfl) ?_
      refine dC (oLO fb31 (.cons rfl (hW_conv) (.cons rfl (Conv.of rfl) (.nil _))) (l31Node_ct w hw n hid _ hxn) (olsk rfl ols0) (kK (by exact bN) k0) (kK (by exact bN) k0) rfl (argOb rfl rfl rfl (argOk' rfl rfl argO0)) (fun o ho => by cases ho) rfl) ?_
      refine dC (op_stPW (s := 83) (r := 78) (w := w) (hv := hv) rfl tW rfl rfl rfl rfl) ?_
      refine dC (oA rfl (Conv.of rfl) rfl) ?_
      refine dr_nil mixed rfl ?_
      refine aT ?_
      repeat first | refine rS ?_ | refine rB ?_
      exact ⟨_, _, rNM (ol := so w) (.cell tW rfl rfl (.keep (.v rfl (Conv.of rfl)) (.nil _))) rfl (inOne rfl) (olk rfl bN oln) (hU rfl), rfl, rfl⟩
    · rw [if_neg (by rw [h2]; decide)]
      refine aW ?_
      refine aS (aR ?_)
      refine oC (op_ldm tW rfl rfl rfl) ?_
      refine oC (op_stm tW rfl rfl rfl) ?_
      refine oC (oA rfl (Conv.of rfl) rfl) ?_
      refine oN ?_
      refine aT ?_
      repeat first | refine rS ?_ | refine rB ?_
      exact ⟨_, _, rNM (ol := so w) (.cell tW rfl rfl (.keep (.v rfl (Conv.of rfl)) (.nil _))) rfl (inOne rfl) (olk rfl bN oln) (hU rfl), rfl, rfl⟩
  rw [if_neg (of_decide_eq_false h)]
  refine aS (aR ?_)
  refine oC (op_eqls rfl rfl rfl) ?_
  refine oC (oA rfl (Conv.of rfl) rfl) ?_
  refine oN ?_
  refine aC rfl (fun h => ?_) (fun h => ?_)
  · rw [if_pos (of_decide_eq_true h)]
    have hdl := decI_len (w.log.length : Int)
    refine awp_parkCW (s := 88) (o := 5) (tb := 2) rfl rfl rfl (fun hv => ?_)
    refine aS (dS ?_)
    refine dC (oD ty38_WrldH rfl rfl rfl) ?_
    refine dC (oF f38_2_WrldH rfl rfl) ?_
    refine dC (oD ty36_HListVote rfl rfl rfl) ?_
    refine dC (oE sl36 rfl rfl) ?_
    refine dC (oL fb32 (.cons rfl (Conv.of rfl) (.nil _)) (l6Dec_ct _ (by show 0 ≤ (w.log.length : Int) ∧ (w.log.length : Int) < 100; omega)) (aK rfl rfl aK0) rfl rfl) ?_
    refine dC (op_adds rfl rfl rfl (by (simp; omega))) ?_
    refine dC (op_stPW (s := 90) (r := 88) (w := w) (hv := hv) rfl tW rfl rfl rfl rfl) ?_
    refine dC (oA rfl (Conv.of rfl) rfl) ?_
    refine dr_nil mixed rfl ?_
    refine aT ?_
    repeat first | refine rS ?_ | refine rB ?_
    exact ⟨_, _, rNM (ol := so w) (.cell tW rfl rfl (.keep (.v rfl (Conv.of rfl)) (.nil _))) rfl (inOne rfl) (olk rfl bN oln) (hU rfl), rfl, rfl⟩
  rw [if_neg (of_decide_eq_false h)]
  refine aW ?_
  refine aS (aR ?_)
  refine oC (op_ldm tW rfl rfl rfl) ?_
  refine oC (op_stm tW rfl rfl rfl) ?_
  refine oC (oA rfl (Conv.of rfl) rfl) ?_
  refine oN ?_
  refine aT ?_
  repeat first | refine rS ?_ | refine rB ?_
  exact ⟨_, _, rNM (ol := so w) (.cell tW rfl rfl (.keep (.v rfl (Conv.of rfl)) (.nil _))) rfl (inOne rfl) (olk rfl bN oln) (hU rfl), rfl, rfl⟩
end Go.Proofs.YtgfoeiieopnlaaaGreatDoor

/- The reference: a calm by lines; a script. -/
set_option linter.unusedVariables false
set_option linter.unusedSimpArgs false
namespace Go.Proofs.YtgfoeiieopnlaaaGreatDoor
open Go Go.Wt
theorem pays_at {n : Int} {p : Pay} {k : Nat} (h1 : (k : Int) < n) (h2 : (k : Int) < 30) (h3 : payOk p = true) : k + 1 ≤ (paysS n p).length := by
  unfold paysS
  rw [if_pos h3, List.length_replicate]
  omega
theorem pays_end {n : Int} {p : Pay} {k : Nat} (hk : k ≤ (paysS n p).length) (h : ¬ (k : Int) < n ∨ ¬ (k : Int) < 30 ∨ payOk p = false) : List.replicate k p = paysS n p := by
  unfold paysS at hk ⊢
  by_cases h3 : payOk p = true
  · rw [if_pos h3] at hk ⊢
    rw [List.length_replicate] at hk
    have : k = (max (min n 30) 0).toNat := by
      rcases h with h | h | h
      · omega
      · omega
      · rw [h3] at h; cases h
    rw [this]
  · rw [if_neg h3] at hk ⊢
    have : k = 0 := by simpa using hk
    subst this
    rfl
set_option maxHeartbeats 4000000 in
theorem l31Calm_ct (w : Wrld) (hw : WOk w) (line : List UInt8) (hl : line.length ≤ 1000) (hc : wordF (splitF 32 line) 0 = [99, 97, 108, 109]) : Ct Tryz.prog 30 [.v w, .v (bs line)] noObj (fun r1 h1 => r1 = .tup [.v (sW (lineS w (splitF 32 line)).1), .v (bs (lineS w (splitF 32 line)).2)] ∧ h1 = obs (so (lineS w (splitF 32 line)).1)) := by
  have hcut := l1Cut_ct line 32 (by omega)
  have hne := splitF_ne 32 line
  generalize splitF 32 line = ws at hc hcut hne ⊢
  have hx0 : (ws.map bs)[(0 : Int).toNat]? = some (bs (wordF ws 0)) := by
    match ws, hne with
    | a :: r, _ => rfl
  have hok := worldOk_iff.2 hw
  have hls : lineS w ws = (worldCalmR w (paysS (numF (wordF ws 1)) (payS (wordF ws 2))), []) := by
    unfold lineS
    rw [hc]
    rfl
  rw [hls]
  have hpl := pays_len (numF (wordF ws 1)) (payS (wordF ws 2))
  have hwc : worldCalmR w (paysS (numF (wordF ws 1)) (payS (wordF ws 2))) = (paysS (numF (wordF ws 1)) (payS (wordF ws 2))).foldl calmF w := by
    unfold worldCalmR
    rw [if_pos (by simp [hok]; omega)]
  rw [hwc]
  refine Ct.intro Tryz.func30 rfl rfl ?_
  all_goals refine aS (aR ?_)
  all_goals refine oC (op_box (o := 5) ty38 rfl (Conv.of rfl) rfl rfl) ?_
  all_goals refine oC (oX (o := 6) z38_WrldS rfl rfl) ?_
  all_goals refine oC (oA rfl (Conv.of rfl) rfl) ?_
  all_goals refine oN ?_
  all_goals refine aS (aR ?_)
  all_goals refine oC (oM rfl (Conv.of rfl) rfl) ?_
  all_goals refine oC (oL fb29 (.cons rfl (Conv.of rfl) (.cons rfl (Conv.of rfl) (.nil _))) (hcut) (aK rfl rfl (aK rfl rfl aK0)) rfl rfl) ?_
  all_goals refine oC (oA rfl (Conv.of rfl) rfl) ?_
  all_goals refine oN ?_
  all_goals refine aS (aS (aR ?_))
  all_goals refine oC (oM rfl (Conv.of rfl) rfl) ?_
  all_goals refine oC (op_ix sl29 rfl rfl rfl (by omega) hx0) ?_
  all_goals refine oC (oDR ty9 rfl rfl) ?_
  all_goals refine oN ?_
  have hat := l31At_ct ws 1
  have hwd2 := l31Word_ct ws 2
  generalize numF (wordF ws 1) = n at hpl hat ⊢
  rw [hc]
  refine aB ?_
  all_goals refine aS (aR ?_)
  all_goals refine oC (op_eqls rfl rfl rfl) ?_
  all_goals refine oC (oA rfl (Conv.of rfl) rfl) ?_
  all_goals refine oN ?_
  refine aC rfl (fun h => absurd (of_decide_eq_true h) (by decide)) (fun h => ?_)
  all_goals refine aS (aR ?_)
  all_goals refine oC (op_eqls rfl rfl rfl) ?_
  all_goals refine oC (oA rfl (Conv.of rfl) rfl) ?_
  all_goals refine oN ?_
  refine aC rfl (fun h => absurd (of_decide_eq_true h) (by decide)) (fun h => ?_)
  all_goals refine aS (aR ?_)
  all_goals refine oC (op_eqls rfl rfl rfl) ?_
  all_goals refine oC (oA rfl (Conv.of rfl) rfl) ?_
  all_goals refine oN ?_
  refine aC rfl (fun h => absurd (of_decide_eq_true h) (by decide)) (fun h => ?_)
  all_goals refine aS (aR ?_)
  all_goals refine oC (op_eqls rfl rfl rfl) ?_
  all_goals refine oC (oA rfl (Conv.of rfl) rfl) ?_
  all_goals refine oN ?_
  refine aC rfl (fun h => absurd (of_decide_eq_true h) (by decide)) (fun h => ?_)
  all_goals refine aS (aR ?_)
  all_goals refine oC (op_eqls rfl rfl rfl) ?_
  all_goals refine oC (oA rfl (Conv.of rfl) rfl) ?_
  all_goals refine oN ?_
  refine aC rfl (fun h => absurd (of_decide_eq_true h) (by decide)) (fun h => ?_)
  all_goals refine aS (aR ?_)
  all_goals refine oC (op_eqls rfl rfl rfl) ?_
  all_goals refine oC (oA rfl (Conv.of rfl) rfl) ?_
  all_goals refine oN ?_
  refine aC rfl (fun h => ?_) (fun h => absurd (show (decide (([99, 97, 108, 109] : List UInt8) = [99, 97, 108, 109])) = false from h) (by decide))
  all_goals refine aS (aR ?_)
  all_goals refine oC (oM rfl (Conv.of rfl) rfl) ?_
  all_goals refine oC (oL fb60 (.cons rfl (Conv.of rfl) (.cons rfl (Conv.of rfl) (.nil _))) (hwd2) (aK rfl rfl (aK rfl rfl aK0)) rfl rfl) ?_
  all_goals refine oC (oL fb59 (.cons rfl (Conv.of rfl) (.nil _)) (l1Pay_ct _) (aK rfl rfl aK0) rfl rfl) ?_
  all_goals refine oC (oX (o := 7) z61 rfl rfl) ?_
  all_goals refine oC (op_st ty61 rfl rfl (Conv.of rfl) rfl) ?_
  all_goals refine oN ?_
  generalize payS (wordF ws 2) = p at hpl ⊢
  have hpk := sPayOk_ct p
  all_goals refine aS (aR ?_)
  all_goals refine oC (op_bsl sl99 z61 (.nil _) rfl (by decide) rfl) ?_
  all_goals refine oC (op_asl rfl rfl rfl rfl) ?_
  all_goals refine oN ?_
  all_goals refine aS (aS (aR ?_))
  all_goals refine oC (oA rfl (Conv.of rfl) rfl) ?_
  all_goals refine oN ?_
  refine awp_to (s' := mkSt 97 [(2, .box 5 (IsLens.whole Wrld)), (4, .box 6 (IsLens.whole WrldS)), (8, .v (OList.mk (paysS n p) true))] [(5, .cell w), (6, .cell WrldS.zero)]) ?_ ?_
  · refine aB ?_
    refine awp_loop' (fun n_ s => ∃ (k : Nat), ∃ (hk : n_ + k = 31), ∃ (hk2 : k ≤ (paysS n p).length), s = mkSt 97 [(2, .box 5 (IsLens.whole Wrld)), (4, .box 6 (IsLens.whole WrldS)), (6, .v (ws.map bs)), (7, .box 7 (IsLens.whole Pay)), (8, .v (OList.mk (List.replicate k p) true)), (9, .v (k : Int))] [(5, .cell w), (6, .cell WrldS.zero), (7, .cell p)]) (31) ⟨0, by omega, by omega, rfl⟩ (Le.mk rfl (tlb rfl rfl rfl (tlb rfl rfl rfl (tle rfl (rfl) rfl (tlb rfl rfl rfl (tle rfl (by rfl) rfl (tle rfl (rfl) rfl tln)))))) (olk rfl (by exact bC) (olk rfl (by exact obOkS0) (olk rfl (by exact bC) oln))) noS) ?_
    rintro n_ s ⟨k, hk, hk2, rfl⟩
    all_goals refine aS (aS (aR ?_))
    all_goals refine oC (oM rfl (Conv.of rfl) rfl) ?_
    all_goals refine oC (oM rfl (Conv.of rfl) rfl) ?_
    all_goals refine oC (oL fb58 (.cons rfl (Conv.of rfl) (.cons rfl (Conv.of rfl) (.nil _))) (hat) (aK rfl rfl (aK rfl rfl aK0)) rfl rfl) ?_
    all_goals refine oC (oLt rfl rfl rfl) ?_
    all_goals refine oC (oM rfl (Conv.of rfl) rfl) ?_
    all_goals refine g_split (t := 61) rfl (fun h => ?_) (fun h => ?_)
    all_goals first | refine oC (gF rfl rfl rfl rfl rfl) ?_ | refine oC (gN rfl rfl rfl (oM rfl (Conv.of rfl) rfl)) ?_
    all_goals first | refine oC (gF rfl rfl rfl rfl rfl) ?_ | refine oC (gN rfl rfl rfl (oLt rfl rfl rfl)) ?_
    all_goals refine oC (oQ rfl rfl rfl rfl) ?_
    all_goals refine oC (oM rfl (Conv.of rfl) rfl) ?_
    all_goals first | refine g_lit (t := 65) (b := false) rfl ?_ | refine g_split (t := 65) rfl (fun h => ?_) (fun h => ?_)
    all_goals first | refine oC (gF rfl rfl rfl rfl rfl) ?_ | refine oC (gN rfl rfl rfl (oD ty61 rfl rfl rfl)) ?_
    all_goals first | refine oC (gF rfl rfl rfl rfl rfl) ?_ | refine oC (gN rfl rfl rfl (oL fb65 (.cons rfl (Conv.of rfl) (.nil _)) (hpk) (aK rfl rfl aK0) rfl rfl)) ?_
    all_goals refine oC (oQ rfl rfl rfl rfl) ?_
    all_goals refine oN ?_
    · rename_i h1
      refine aC rfl (fun h3 => ?_) (fun h3 => ?_)
      · have hk3 := pays_at (of_decide_eq_true h1) (of_decide_eq_true h) h3
        refine aW ?_
        refine aS (aB ?_)
        all_goals refine aR ?_
        all_goals refine oC (op_mvl rfl rfl rfl rfl) ?_
        all_goals refine oC (oD ty61 rfl rfl rfl) ?_
        all_goals refine oC (op_bsl sl99 z61 (.cons rfl (Conv.of rfl) (.nil _)) rfl (by decide) rfl) ?_
        all_goals refine oC (op_app sl99 z61 ul99 rfl rfl rfl (by (simp; omega)) (by (simp; omega)) rfl rfl) ?_
        all_goals refine oC (op_asl rfl rfl rfl rfl) ?_
        all_goals refine oN ?_
        all_goals refine aR ?_
        all_goals refine oC (oM rfl (Conv.of rfl) rfl) ?_
        all_goals refine oC (oP rfl rfl rfl (by omega)) ?_
        all_goals refine oC (oA rfl (Conv.of rfl) rfl) ?_
        all_goals refine oN ?_
        repeat first | refine nS ?_ | refine nB ?_
        exact ⟨n_ - 1, _, by omega, ⟨k + 1, by omega, hk3, rfl⟩, Le.mk rfl (tlb rfl rfl rfl (tlb rfl rfl rfl (tle rfl (rfl) rfl (tlb rfl rfl rfl (tle rfl (by (rw [List.replicate_succ'])) rfl (tle rfl (rfl) rfl tln)))))) (olk rfl (by exact bC) (olk rfl (by exact obOkS0) (olk rfl (by exact bC) oln))) noS⟩
      · refine aE ?_
        repeat refine ex_seq ?_
        refine eB ?_
        all_goals exact Le.mk rfl (tlb rfl rfl rfl (tlb rfl rfl rfl (tle rfl (by (rw [← pays_end hk2 (.inr (.inr h3))])) rfl tln))) (olk rfl (by exact bC) (olk rfl (by exact obOkS0) oln)) noS
    · refine aC rfl (fun h3 => absurd h3 (by decide)) (fun h3 => ?_)
      refine aE ?_
      repeat refine ex_seq ?_
      refine eB ?_
      all_goals exact Le.mk rfl (tlb rfl rfl rfl (tlb rfl rfl rfl (tle rfl (by (rw [← pays_end hk2 (.inr (.inl (of_decide_eq_false h)))])) rfl tln))) (olk rfl (by exact bC) (olk rfl (by exact obOkS0) oln)) noS
    · refine aC rfl (fun h3 => absurd h3 (by decide)) (fun h3 => ?_)
      refine aE ?_
      repeat refine ex_seq ?_
      refine eB ?_
      all_goals exact Le.mk rfl (tlb rfl rfl rfl (tlb rfl rfl rfl (tle rfl (by (rw [← pays_end hk2 (.inl (of_decide_eq_false h))])) rfl tln))) (olk rfl (by exact bC) (olk rfl (by exact obOkS0) oln)) noS
  all_goals refine aS (aR ?_)
  all_goals refine oC (oD ty38 rfl rfl rfl) ?_
  all_goals refine oC (oM rfl Conv.ol rfl) ?_
  refine awpOps_callO [] rfl fb66 (.cons rfl (Conv.of rfl) (.cons rfl (Conv.of rfl) (.nil _))) (sCalmA_ct w _ hok hpl) ols0 k0 (argOk' rfl rfl (argOk' rfl rfl argO0)) rfl ?_
  rintro r h' ⟨rfl, rfl⟩
  refine ⟨so ((paysS n p).foldl calmF w), rfl, (fun o ho => by cases ho), fun o ho _ => ?_, kK bN k0, fun o ho => ?_, ?_⟩
  · have : o = 1 := by simpa [keys, lk0] using ho
    subst this; rfl
  · have : o = 1 := by simpa using (show o ∈ [1] from ho)
    subst this; rfl
  all_goals refine oC (op_stm tW rfl rfl rfl) ?_
  all_goals refine oC (oA rfl (Conv.of rfl) rfl) ?_
  all_goals refine oN ?_
  refine aT ?_
  repeat first | refine rS ?_ | refine rB ?_
  exact ⟨_, _, rNM (ol := so ((paysS n p).foldl calmF w)) (.cell tW rfl rfl (.keep (.v rfl (Conv.of rfl)) (.nil _))) rfl (inOne rfl) (olk rfl bN oln) noS, rfl, rfl⟩
end Go.Proofs.YtgfoeiieopnlaaaGreatDoor

/- The reference: a script. -/
set_option linter.unusedVariables false
set_option linter.unusedSimpArgs false
namespace Go.Proofs.YtgfoeiieopnlaaaGreatDoor
open Go Go.Wt
theorem sLinesBad_ct (bad : Int) (text : List UInt8) (hb : within bad 0 4 = false) : CtP Tryz.prog 16 [.v bad, .v (bs text)] (.v (bs noWorldB)) := by
  refine Ct.intro Tryz.func16 rfl rfl ?_
  refine aS (aR ?_)
  refine oC (oA rfl (Conv.of rfl) rfl) ?_
  refine oN ?_
  refine aS (aR ?_)
  refine oC (oM rfl (Conv.of rfl) rfl) ?_
  refine oC (oL fb28 (.cons rfl (Conv.of rfl) (.nil _)) (sWorldNewBad_ct bad hb) (aK rfl rfl aK0) rfl rfl) ?_
  refine oC (op_mvo rfl rfl rfl rfl) ?_
  refine oC (op_ext rfl rfl rfl) ?_
  refine oC (op_ext rfl rfl rfl) ?_
  refine oC (oX (o := 0) z38_WrldS rfl rfl) ?_
  refine oC (op_st tW rfl rfl (Conv.of rfl) rfl) ?_
  refine oC (oA rfl (Conv.of rfl) rfl) ?_
  refine oN ?_
  refine aS (aS (aR ?_))
  refine oC (oM rfl (Conv.of rfl) rfl) ?_
  refine oC (op_not rfl rfl) ?_
  refine oN ?_
  refine aC rfl (fun h => ?_) (fun h => absurd h (by decide))
  refine aS (aR ?_)
  refine oC (oA rfl (Conv.of rfl) rfl) ?_
  refine oN ?_
  refine aT ?_
  repeat first | refine rS ?_ | refine rB ?_
  exact finP (.v rfl (Conv.of rfl)) rfl rfl
set_option maxHeartbeats 1000000 in
theorem sLinesLong_ct (bad : Int) (text : List UInt8) (hb : within bad 0 4 = true) (hl : 600 < text.length) : CtP Tryz.prog 16 [.v bad, .v (bs text)] (.v (bs tooLongB)) := by
  refine Ct.intro Tryz.func16 rfl rfl ?_
  refine aS (aR ?_)
  refine oC (oA rfl (Conv.of rfl) rfl) ?_
  refine oN ?_
  refine aS (aR ?_)
  refine oC (oM rfl (Conv.of rfl) rfl) ?_
  refine awpOps_callO [] rfl fb28 (.cons rfl (Conv.of rfl) (.nil _)) (sWorldNew_w bad hb) ols0 k0 (argOk' rfl rfl argO0) rfl ?_
  rintro r_ h' ⟨rfl, rfl⟩
  refine ⟨so (newW bad), rfl, (fun o ho => by cases ho), fun o ho _ => ?_, kK bN k0, fun o ho => ?_, ?_⟩
  · have : o = 1 := by simpa [keys, lk0] using ho
    subst this; rfl
  · have : o = 1 := by simpa using (show o ∈ [1] from ho)
    subst this; rfl
  refine oC (op_mvo rfl rfl rfl rfl) ?_
  refine oC (op_extm rfl rfl rfl rfl) ?_
  refine oC (op_ext rfl rfl rfl) ?_
  refine oC (oX (o := 5) z38_WrldS rfl rfl) ?_
  refine oC (op_stm tW rfl rfl rfl) ?_
  refine oC (oA rfl (Conv.of rfl) rfl) ?_
  refine oN ?_
  refine aS (aS (aR ?_))
  refine oC (oM rfl (Conv.of rfl) rfl) ?_
  refine oC (op_not rfl rfl) ?_
  refine oN ?_
  refine aC rfl (fun h => absurd h (by decide)) (fun h => ?_)
  refine aW ?_
  refine aS (aS (aR ?_))
  refine oC (oM rfl (Conv.of rfl) rfl) ?_
  refine oC (op_lens un9 rfl rfl) ?_
  refine oC (op_gtr rfl rfl rfl) ?_
  refine oN ?_
  refine aC rfl (fun h => ?_) (fun h => ?_)
  · refine aS (aR ?_)
    refine oC (oA rfl (Conv.of rfl) rfl) ?_
    refine oN ?_
    refine aT ?_
    repeat first | refine rS ?_ | refine rB ?_
    exact finP (.v rfl (Conv.of rfl)) rfl rfl
  · exfalso
    simp at h
    omega
set_option maxHeartbeats 4000000 in
theorem sLines_ct (bad : Int) (text : List UInt8) (hb : within bad 0 4 = true) (hl : text.length ≤ 600) : CtP Tryz.prog 16 [.v bad, .v (bs text)] (.v (bs (([1, 2, 3, 4] : List Int).foldl (tailStep bad (runL text (newW bad, [])).1) (runL text (newW bad, [])).2))) := by
  have hcut := l1Cut_ct text 10 (by omega)
  have hpt := splitF_part 10 text
  have hne := splitF_ne 10 text
  have hsl := splitF_len 10 text
  have hcl := count_le text 10
  unfold runL
  generalize splitF 10 text = ls at hcut hpt hne hsl ⊢
  have hlp : 0 < ls.length := List.length_pos_iff.2 hne
  refine Ct.intro Tryz.func16 rfl rfl ?_
  refine aS (aR ?_)
  refine oC (oA rfl (Conv.of rfl) rfl) ?_
  refine oN ?_
  refine aS (aR ?_)
  refine oC (oM rfl (Conv.of rfl) rfl) ?_
  refine awpOps_callO [] rfl fb28 (.cons rfl (Conv.of rfl) (.nil _)) (sWorldNew_w bad hb) ols0 k0 (argOk' rfl rfl argO0) rfl ?_
  rintro r_ h' ⟨rfl, rfl⟩
  refine ⟨so (newW bad), rfl, (fun o ho => by cases ho), fun o ho _ => ?_, kK bN k0, fun o ho => ?_, ?_⟩
  · have : o = 1 := by simpa [keys, lk0] using ho
    subst this; rfl
  · have : o = 1 := by simpa using (show o ∈ [1] from ho)
    subst this; rfl
  refine oC (op_mvo rfl rfl rfl rfl) ?_
  refine oC (op_extm rfl rfl rfl rfl) ?_
  refine oC (op_ext rfl rfl rfl) ?_
  refine oC (oX (o := 5) z38_WrldS rfl rfl) ?_
  refine oC (op_stm tW rfl rfl rfl) ?_
  refine oC (oA rfl (Conv.of rfl) rfl) ?_
  refine oN ?_
  refine aS (aS (aR ?_))
  refine oC (oM rfl (Conv.of rfl) rfl) ?_
  refine oC (op_not rfl rfl) ?_
  refine oN ?_
  refine aC rfl (fun h => absurd h (by decide)) (fun h => ?_)
  refine aW ?_
  refine aS (aS (aR ?_))
  refine oC (oM rfl (Conv.of rfl) rfl) ?_
  refine oC (op_lens un9 rfl rfl) ?_
  refine oC (op_gtr rfl rfl rfl) ?_
  refine oN ?_
  refine aC rfl (fun h => ?_) (fun h => ?_)
  · exfalso
    simp at h
    omega
  refine aW ?_
  refine aS (aR ?_)
  refine oC (oA rfl (Conv.of rfl) rfl) ?_
  refine oN ?_
  refine aS (aR ?_)
  refine oC (oM rfl (Conv.of rfl) rfl) ?_
  refine oC (oL fb29 (.cons rfl (Conv.of rfl) (.cons rfl (Conv.of rfl) (.nil _))) (hcut) (aK rfl rfl (aK rfl rfl aK0)) rfl rfl) ?_
  refine oC (oA rfl (Conv.of rfl) rfl) ?_
  refine oN ?_
  refine aS (aS (aR ?_))
  refine oC (oA rfl (Conv.of rfl) rfl) ?_
  refine oN ?_
  refine aB ?_
  refine awp_loop' (fun n_ s => ∃ (k : Nat), ∃ (w : Wrld), ∃ (out : List UInt8), ∃ (hw : WOk w), ∃ (he : (ls.take k).foldl linesStep (newW bad, []) = (w, out)), ∃ (hk : n_ + k = ls.length), ∃ (hk2 : k + 1 ≤ ls.length), ∃ (ho : out.length ≤ 40 * k), s = mkSt 58 [(5, .box 5 (IsLens.whole WrldS)), (0, .v bad), (7, .v (bs out)), (8, .v (ls.map bs)), (9, .v (k : Int))] [(5, .cell (sW w)), (1, .arr (w.nodes.map sN))]) (ls.length) ⟨0, newW bad, [], newW_wok hb, rfl, by omega, by omega, by simp, rfl⟩ (Le.mk rfl (tlb rfl rfl rfl (tle rfl (rfl) rfl (tle rfl (rfl) rfl (tle rfl (rfl) rfl (tle rfl (rfl) rfl tln))))) (olk rfl (by exact obOkS rfl) (olk rfl (by exact bN) oln)) noS) ?_
  rintro n_ s ⟨k, w, out, hw, he, hk, hk2, ho, rfl⟩
  by_cases hlt : k + 1 < ls.length
  · have hx : ls[k]? = some ls[k] := List.getElem?_eq_getElem (by omega)
    have hpl := hpt _ (List.getElem_mem (by omega : k < ls.length))
    generalize ls[k] = line at hx hpl
    have hx' : (ls.map bs)[(k : Int).toNat]? = some (bs line) := by rw [Int.toNat_natCast, List.getElem?_map, hx]; rfl
    have hwok := worldOk_iff.2 hw
    have hll := lineI_len hw.fx (splitF 32 line)
    have hiw := lineI_wok hw (splitF 32 line)
    have hst : (ls.take (k + 1)).foldl linesStep (newW bad, []) = ((lineI w (splitF 32 line)).1, out ++ (lineI w (splitF 32 line)).2) := by
      rw [foldl_at linesStep _ hx, he]; rfl
    by_cases hc : wordF (splitF 32 line) 0 = [99, 97, 108, 109]
    · have hct := l31Calm_ct w hw line (by omega) hc
      rw [lineS_eq hwok] at hct
      generalize lineI w (splitF 32 line) = R at hct hll hiw hst
      refine awp_le (Le.frzW (t := 5) (c := 5) (o := 1) (by have := hw.fx.four; show _ ≤ 4611686018427387904; omega) rfl noS rfl rfl rfl obl0) ?_
      refine aS (aS (aR ?_))
      refine oC (oM rfl (Conv.of rfl) rfl) ?_
      refine oC (oP rfl rfl rfl (by omega)) ?_
      refine oC (oM rfl (Conv.of rfl) rfl) ?_
      refine oC (oE sl29 rfl rfl) ?_
      refine oC (oLt rfl rfl rfl) ?_
      refine oN ?_
      refine aC rfl (fun h => ?_) (fun h => ?_)
      · refine aW ?_
        refine aS (aB ?_)
        refine aS (dS ?_)
        refine dC (oD ty38 rfl rfl rfl) ?_
        refine dC (oM rfl (Conv.of rfl) rfl) ?_
        refine dC (oM rfl (Conv.of rfl) rfl) ?_
        refine dC (op_ix sl29 rfl rfl rfl (by omega) hx') ?_
        refine dC (oDR ty9 rfl rfl) ?_
        refine dC (OpOk.emitW (d := 38) (o' := 9) 29 (op_callN (ol' := so R.1) fb30 (.cons rfl (Conv.of rfl) (.cons rfl (Conv.of rfl) (.nil _))) hct (aK rfl rfl (aK rfl rfl aK0)) (soFree rfl) (kK bN k0) (inOne rfl) rfl) rfl rfl rfl rfl rfl) ?_
        refine dC (oM rfl (Conv.of rfl) rfl) ?_
        refine dC (op_ext rfl rfl rfl) ?_
        refine dC (op_ext rfl rfl rfl) ?_
        refine dC (oX (o := 7) z38_WrldS rfl rfl) ?_
        refine dC (op_stRW (o' := 9) (s := 39) 29 (w := R.1) rfl tW rfl rfl rfl rfl) ?_
        refine dC (oA rfl (Conv.of rfl) rfl) ?_
        refine dr_nil mixed rfl ?_
        refine aS (aR ?_)
        refine oC (op_ldm tW rfl rfl rfl) ?_
        refine oC (op_stS (α := Wrld) (o := 5) tW rfl rfl rfl rfl) ?_
        refine oN ?_
        refine aR ?_
        refine oC (oM rfl (Conv.of rfl) rfl) ?_
        refine oC (oM rfl (Conv.of rfl) rfl) ?_
        refine oC (op_adds rfl rfl rfl (by omega)) ?_
        refine oC (oA rfl (Conv.of rfl) rfl) ?_
        refine oN ?_
        refine aR ?_
        refine oC (oM rfl (Conv.of rfl) rfl) ?_
        refine oC (oP rfl rfl rfl (by omega)) ?_
        refine oC (oA rfl (Conv.of rfl) rfl) ?_
        refine oN ?_
        repeat first | refine nS ?_ | refine nB ?_
        exact ⟨n_ - 1, _, by omega, ⟨k + 1, R.1, out ++ R.2, hiw, hst, by omega, by omega, by rw [List.length_append]; omega, rfl⟩, Le.mk rfl (tlb rfl rfl rfl (tle rfl (rfl) rfl (tle rfl (rfl) rfl (tle rfl (rfl) rfl (tle rfl (rfl) rfl tln))))) (olk rfl (by exact obOkS rfl) (olk rfl (by exact bN) oln)) noS⟩
      · exfalso
        have h0 : ¬ ((k : Int) + 1 < ((ls.map bs).length : Int)) := of_decide_eq_false h
        simp at h0
        omega
    · have hct := l31Line_ct w hw.fx line (by omega) hc
      rw [lineS_eq hwok] at hct
      generalize lineI w (splitF 32 line) = R at hct hll hiw hst
      refine aS (aS (aR ?_))
      refine oC (oM rfl (Conv.of rfl) rfl) ?_
      refine oC (oP rfl rfl rfl (by omega)) ?_
      refine oC (oM rfl (Conv.of rfl) rfl) ?_
      refine oC (oE sl29 rfl rfl) ?_
      refine oC (oLt rfl rfl rfl) ?_
      refine oN ?_
      refine aC rfl (fun h => ?_) (fun h => ?_)
      · refine aW ?_
        refine aS (aB ?_)
        refine aS (dS ?_)
        refine dC (op_ldm tW rfl rfl rfl) ?_
        refine dC (oM rfl (Conv.of rfl) rfl) ?_
        refine dC (oM rfl (Conv.of rfl) rfl) ?_
        refine dC (op_ix sl29 rfl rfl rfl (by omega) hx') ?_
        refine dC (oDR ty9 rfl rfl) ?_
        refine dC (OpOk.emitW (d := 38) (o' := 9) 29 (oLM (s := 33) (pre := []) fb30 (.nil _) rfl (.cons rfl (Conv.of rfl) (.nil _)) (hct) (olsk rfl ols0) (kK (by exact bN) k0) (kK (by exact bN) k0) rfl argO0 (argOk' rfl rfl argO0) (inOne rfl) (inOne rfl) rfl) rfl rfl rfl rfl rfl) ?_
        refine dC (oM rfl (Conv.of rfl) rfl) ?_
        refine dC (op_ext rfl rfl rfl) ?_
        refine dC (op_ext rfl rfl rfl) ?_
        refine dC (oX (o := 7) z38_WrldS rfl rfl) ?_
        refine dC (op_stRW (o' := 9) (s := 39) 29 (w := R.1) rfl tW rfl rfl rfl rfl) ?_
        refine dC (oA rfl (Conv.of rfl) rfl) ?_
        refine dr_nil mixed rfl ?_
        refine aS (aR ?_)
        refine oC (op_ldm tW rfl rfl rfl) ?_
        refine oC (op_stm tW rfl rfl rfl) ?_
        refine oN ?_
        refine aR ?_
        refine oC (oM rfl (Conv.of rfl) rfl) ?_
        refine oC (oM rfl (Conv.of rfl) rfl) ?_
        refine oC (op_adds rfl rfl rfl (by omega)) ?_
        refine oC (oA rfl (Conv.of rfl) rfl) ?_
        refine oN ?_
        refine aR ?_
        refine oC (oM rfl (Conv.of rfl) rfl) ?_
        refine oC (oP rfl rfl rfl (by omega)) ?_
        refine oC (oA rfl (Conv.of rfl) rfl) ?_
        refine oN ?_
        repeat first | refine nS ?_ | refine nB ?_
        exact ⟨n_ - 1, _, by omega, ⟨k + 1, R.1, out ++ R.2, hiw, hst, by omega, by omega, by rw [List.length_append]; omega, rfl⟩, Le.mk rfl (tlb rfl rfl rfl (tle rfl (rfl) rfl (tle rfl (rfl) rfl (tle rfl (rfl) rfl (tle rfl (rfl) rfl tln))))) (olk rfl (by exact obOkS rfl) (olk rfl (by exact bN) oln)) noS⟩
      · exfalso
        have h0 : ¬ ((k : Int) + 1 < ((ls.map bs).length : Int)) := of_decide_eq_false h
        simp at h0
        omega
  · have hend : ls.dropLast.foldl linesStep (newW bad, []) = (w, out) := by
      rw [← he, List.dropLast_eq_take, show ls.length - 1 = k by omega]
    rw [hend]
    have h4 := hw.fx.four
    refine aS (aS (aR ?_))
    refine oC (oM rfl (Conv.of rfl) rfl) ?_
    refine oC (oP rfl rfl rfl (by omega)) ?_
    refine oC (oM rfl (Conv.of rfl) rfl) ?_
    refine oC (oE sl29 rfl rfl) ?_
    refine oC (oLt rfl rfl rfl) ?_
    refine oN ?_
    refine aC rfl (fun h => ?_) (fun h => ?_)
    · exfalso
      have h0 : (k : Int) + 1 < ((ls.map bs).length : Int) := of_decide_eq_true h
      simp at h0
      omega
    refine aE ?_
    repeat refine ex_seq ?_
    refine eB ?_
    refine aS (aS (aR ?_))
    refine oC (oA rfl (Conv.of rfl) rfl) ?_
    refine oN ?_
    refine aB ?_
    refine awp_loop' (fun n_ s => ∃ (j : Nat), ∃ (hj : n_ + j = 4), s = mkSt 58 [(5, .box 5 (IsLens.whole WrldS)), (0, .v bad), (7, .v (bs ((([1, 2, 3, 4] : List Int).take j).foldl (tailStep bad w) out))), (12, .v ((j : Int) + 1))] [(5, .cell (sW w)), (1, .arr (w.nodes.map sN))]) (4) ⟨0, by omega, rfl⟩ (Le.mk rfl (tlb rfl rfl rfl (tle rfl (rfl) rfl (tle rfl (by rfl) rfl (tle rfl (rfl) rfl tln)))) (olk rfl (by exact obOkS rfl) (olk rfl (by exact bN) oln)) noS) ?_
    rintro n_ s ⟨j, hj, rfl⟩
    refine aS (aS (aR ?_))
    refine oC (oM rfl (Conv.of rfl) rfl) ?_
    refine oC (op_leq rfl rfl rfl) ?_
    refine oN ?_
    have htl := tail_len hw.fx bad out j
    refine aC rfl (fun h2 => ?_) (fun h2 => ?_)
    · have hj3 : j < 4 := by
        have h0 : (j : Int) + 1 ≤ 4 := of_decide_eq_true h2
        omega
      have hxj : ([1, 2, 3, 4] : List Int)[j]? = some ((j : Int) + 1) := by
        have : j = 0 ∨ j = 1 ∨ j = 2 ∨ j = 3 := by omega
        rcases this with e | e | e | e <;> subst e <;> rfl
      have hxn : w.nodes[((j : Int) + 1 - 1).toNat]? = some (w.nodes.getD ((j : Int) + 1 - 1).toNat .zero) := by
        rw [List.getD_eq_getElem?_getD, List.getElem?_eq_getElem (by omega)]; rfl
      have hsl2 := status_len hw.fx (id := (j : Int) + 1) (by simp [within]; omega)
      have htk := htl (by omega)
      refine aW ?_
      refine aS (aB ?_)
      refine aS (aR ?_)
      refine oC (oM rfl (Conv.of rfl) rfl) ?_
      refine oC (oM rfl (Conv.of rfl) rfl) ?_
      refine oC (op_neq rfl rfl rfl) ?_
      refine oN ?_
      refine aC rfl (fun h3 => ?_) (fun h3 => ?_)
      · have hne2 : ¬ ((j : Int) + 1 = bad) := by simpa using h3
        refine aR ?_
        refine oC (oM rfl (Conv.of rfl) rfl) ?_
        refine oC (op_ldd tW rfl rfl rfl) ?_
        refine oC (oM rfl (Conv.of rfl) rfl) ?_
        refine oC (oLO fb31 (.cons rfl (Conv.of rfl) (.cons rfl (Conv.of rfl) (.nil _))) (l31Node_ct w hw.fx ((j : Int) + 1) ⟨by omega, by omega⟩ _ hxn) (olsk rfl ols0) (kK (by exact bN) k0) (kK (by exact bN) k0) rfl (argOb rfl rfl rfl (argOk' rfl rfl argO0)) (fun o ho => by cases ho) rfl) ?_
        refine oC (op_adds rfl rfl rfl (by omega)) ?_
        refine oC (oA rfl (Conv.of rfl) rfl) ?_
        refine oN ?_
        refine aR ?_
        refine oC (oM rfl (Conv.of rfl) rfl) ?_
        refine oC (oP rfl rfl rfl (by omega)) ?_
        refine oC (oA rfl (Conv.of rfl) rfl) ?_
        refine oN ?_
        repeat first | refine nS ?_ | refine nB ?_
        exact ⟨n_ - 1, _, by omega, ⟨j + 1, by omega, rfl⟩, Le.mk rfl (tlb rfl rfl rfl (tle rfl (rfl) rfl (tle rfl (by (rw [foldl_at (tailStep bad w) _ hxj]; unfold tailStep; first | rw [if_neg hne2] | rw [if_pos he2])) rfl (tle rfl (rfl) rfl tln)))) (olk rfl (by exact obOkS rfl) (olk rfl (by exact bN) oln)) noS⟩
      · have he2 : (j : Int) + 1 = bad := by simpa using h3
        refine aW ?_
        refine aR ?_
        refine oC (oM rfl (Conv.of rfl) rfl) ?_
        refine oC (oP rfl rfl rfl (by omega)) ?_
        refine oC (oA rfl (Conv.of rfl) rfl) ?_
        refine oN ?_
        repeat first | refine nS ?_ | refine nB ?_
        exact ⟨n_ - 1, _, by omega, ⟨j + 1, by omega, rfl⟩, Le.mk rfl (tlb rfl rfl rfl (tle rfl (rfl) rfl (tle rfl (by (rw [foldl_at (tailStep bad w) _ hxj]; unfold tailStep; first | rw [if_neg hne2] | rw [if_pos he2])) rfl (tle rfl (rfl) rfl tln)))) (olk rfl (by exact obOkS rfl) (olk rfl (by exact bN) oln)) noS⟩
    · refine aE ?_
      repeat refine ex_seq ?_
      refine eB ?_
      have hj4 : j = 4 := by
        have h0 : ¬ ((j : Int) + 1 ≤ 4) := of_decide_eq_false h2
        omega
      subst hj4
      refine aS (aR ?_)
      refine oC (oM rfl (Conv.of rfl) rfl) ?_
      refine oC (oA rfl (Conv.of rfl) rfl) ?_
      refine oN ?_
      refine aT ?_
      repeat first | refine rS ?_ | refine rB ?_
      exact finP (.v rfl (Conv.of rfl)) rfl rfl
theorem sLinesRun_ct (bad : Int) (text : List UInt8) : CtP Tryz.prog 16 [.v bad, .v (bs text)] (.v (bs (linesF bad text))) := by
  unfold linesF
  split
  · rename_i hb
    split
    · rename_i hl; exact sLines_ct bad text hb hl
    · rename_i hl; exact sLinesLong_ct bad text hb (by omega)
  · rename_i hb; exact sLinesBad_ct bad text (by simpa using hb)
end Go.Proofs.YtgfoeiieopnlaaaGreatDoor

/- Drawn lines. -/
set_option linter.unusedVariables false
set_option linter.unusedSimpArgs false
namespace Go.Proofs.YtgfoeiieopnlaaaGreatDoor
open Go Go.Wt
set_option maxHeartbeats 4000000 in
theorem l72Line_ct (r : Rd) (hp : Far 800000 r) : Ct Tryz.prog 19 [.box 0 (IsLens.whole Rd)] (obs [(0, .cell r)]) (fun r1 h1 => ∃ (s : List UInt8) (r' : Rd), r1 = .v (bs s) ∧ h1 = obs [(0, .cell r')] ∧ s.length ≤ 40 ∧ r.p ≤ r'.p ∧ r'.p ≤ r.p + 10) := by
  have b0 := pk_bd hp (by omega) 4
  have c0 := b0.2 (by omega)
  have hf1 : Far 800001 (nx r 1) := hp.nx (by omega) (by omega)
  have p1 := pk_bd hf1 (by omega) 3
  have p1' := p1.2 (by omega)
  have hf1a : Far 800002 (nx (nx r 1) 1) := hf1.nx (by omega) (by omega)
  have hf1b : Far 800003 (nx (nx r 1) 2) := hf1.nx (by omega) (by omega)
  have p2 := pk_bd hf1a (by omega) 2
  have p2' := p2.2 (by omega)
  have p3 := pk_bd hf1b (by omega) 9
  have p3' := p3.2 (by omega)
  have hpay := l71Pay_ct (nx r 1) (hf1.weak (by omega))
  have hfrm : 0 ≤ (payV (nx r 1)).frm ∧ (payV (nx r 1)).frm < 100 := by simp only [payV]; omega
  have hto : 0 ≤ (payV (nx r 1)).to ∧ (payV (nx r 1)).to < 100 := by
    simp only [payV]
    have := Int.tmod_lt_of_pos (1 + pk (nx r 1) 3 + pk (nx (nx r 1) 1) 2) (show (0 : Int) < 3 by decide)
    have := Int.tmod_nonneg (3 : Int) (show 0 ≤ 1 + pk (nx r 1) 3 + pk (nx (nx r 1) 1) 2 by omega)
    omega
  have hsum : 0 ≤ (payV (nx r 1)).sum ∧ (payV (nx r 1)).sum < 100 := by simp only [payV]; omega
  generalize payV (nx r 1) = p at hpay hfrm hto hsum
  have hf2 : Far 800004 (nx (nx r 1) 3) := hf1.nx (by omega) (by omega)
  have q0 := pk_bd hf2 (by omega) 13
  have q0' := q0.2 (by omega)
  have hp0 : r.p ≤ (nx (nx (nx r 1) 3) 1).p ∧ (nx (nx (nx r 1) 3) 1).p ≤ r.p + 5 := by simp [nx]; omega
  have hf3 : Far 800005 (nx (nx (nx r 1) 3) 1) := hf2.nx (by omega) (by omega)
  have hpk := pick_ct (nx (nx r 1) 3) 13 (by unfold Far at hf2; omega)
  have l1 := decI_len (1 + pk r 4)
  have l2 := decI_len p.frm
  have l3 := decI_len p.to
  have l4 := decI_len p.sum
  refine Ct.intro Tryz.func19 rfl rfl ?_
  refine aS (aR ?_)
  refine oC (oA rfl (Conv.of rfl) rfl) ?_
  refine oN ?_
  refine aS (aR ?_)
  refine oC (oM rfl (Conv.of rfl) rfl) ?_
  refine oC (oLO fb18 (.cons rfl (Conv.of rfl) (.cons rfl (Conv.of rfl) (.nil _))) (pick_ct r 4 (by unfold Far at hp; omega)) (olsk rfl ols0) (kK (by exact bC) k0) (kK (by exact bC) k0) rfl (argOb rfl rfl rfl (argOk' rfl rfl argO0)) (fun o ho => by cases ho) rfl) ?_
  refine oC (oP rfl rfl rfl (by omega)) ?_
  refine oC (oL fb32 (.cons rfl (Conv.of rfl) (.nil _)) (l6Dec_ct _ (by omega)) (aK rfl rfl aK0) rfl rfl) ?_
  refine oC (oA rfl (Conv.of rfl) rfl) ?_
  refine oN ?_
  generalize decI (1 + pk r 4) = who at l1 ⊢
  refine aS (aR ?_)
  refine oC (oM rfl (Conv.of rfl) rfl) ?_
  refine oC (oLO fb33 (.cons rfl (Conv.of rfl) (.nil _)) (hpay) (olsk rfl ols0) (kK (by exact bC) k0) (kK (by exact bC) k0) rfl (argOb rfl rfl rfl argO0) (fun o ho => by cases ho) rfl) ?_
  refine oC (oX (o := 5) z61 rfl rfl) ?_
  refine oC (op_st ty61 rfl rfl (Conv.of rfl) rfl) ?_
  refine oN ?_
  refine aS (dS ?_)
  refine dC (oF f61_0 rfl rfl) ?_
  refine dC (oD ty3 rfl rfl rfl) ?_
  refine dC (oL fb32 (.cons rfl (Conv.of rfl) (.nil _)) (l6Dec_ct _ hfrm) (aK rfl rfl aK0) rfl rfl) ?_
  refine dC (oF f61_1 rfl rfl) ?_
  refine dC (oD ty3 rfl rfl rfl) ?_
  refine dC (oL fb32 (.cons rfl (Conv.of rfl) (.nil _)) (l6Dec_ct _ hto) (aK rfl rfl aK0) rfl rfl) ?_
  refine dC (op_adds rfl rfl rfl (by omega)) ?_
  refine dC (oF f61_2 rfl rfl) ?_
  refine dC (oD ty3 rfl rfl rfl) ?_
  refine dC (oL fb32 (.cons rfl (Conv.of rfl) (.nil _)) (l6Dec_ct _ hsum) (aK rfl rfl aK0) rfl rfl) ?_
  refine dC (op_adds rfl rfl rfl (by (simp; omega))) ?_
  refine dC (oA rfl (Conv.of rfl) rfl) ?_
  refine dr_nil mixed rfl ?_
  have hpl : (decI p.frm ++ decI p.to ++ decI p.sum).length ≤ 6 := by simp; omega
  generalize decI p.frm ++ decI p.to ++ decI p.sum = pay at hpl ⊢
  refine aS (aS (aR ?_))
  refine oC (oM rfl (Conv.of rfl) rfl) ?_
  refine oC (oLO fb18 (.cons rfl (Conv.of rfl) (.cons rfl (Conv.of rfl) (.nil _))) (hpk) (olsk rfl ols0) (kK (by exact bC) k0) (kK (by exact bC) k0) rfl (argOb rfl rfl rfl (argOk' rfl rfl argO0)) (fun o ho => by cases ho) rfl) ?_
  refine oN ?_
  generalize pk (nx (nx r 1) 3) 13 = v at q0 q0' ⊢
  generalize nx (nx (nx r 1) 3) 1 = r0 at hp0 hf3 ⊢
  have g6 := pk_bd hf3 (by omega) 6
  have g6' := g6.2 (by omega)
  have g5 := pk_bd hf3 (by omega) 5
  have g5' := g5.2 (by omega)
  have g3 := pk_bd hf3 (by omega) 3
  have g3' := g3.2 (by omega)
  have d6 := decI_len (pk r0 6)
  have d5 := decI_len (pk r0 5)
  have d3 := decI_len (1 + pk r0 3)
  have hpk6 := pick_ct r0 6 (by unfold Far at hf3; omega)
  have hpk5 := pick_ct r0 5 (by unfold Far at hf3; omega)
  have hpk3 := pick_ct r0 3 (by unfold Far at hf3; omega)
  have hof := of_ct r0 [[108, 111, 103], [119, 104, 97, 116], [], [115, 101, 101, 32, 57], [98, 114, 105, 110, 103], [102, 111, 114, 103, 101, 32, 49, 58, 49, 50, 49], [102, 111, 114, 103, 101, 32, 49, 58, 49, 50, 50, 44, 50, 58, 49, 51, 49]] (hf3.weak (by omega)) (by decide) (by decide)
  have hof' : (wordF [[108, 111, 103], [119, 104, 97, 116], [], [115, 101, 101, 32, 57], [98, 114, 105, 110, 103], [102, 111, 114, 103, 101, 32, 49, 58, 49, 50, 49], [102, 111, 114, 103, 101, 32, 49, 58, 49, 50, 50, 44, 50, 58, 49, 51, 49]] (pk r0 ((([[108, 111, 103], [119, 104, 97, 116], [], [115, 101, 101, 32, 57], [98, 114, 105, 110, 103], [102, 111, 114, 103, 101, 32, 49, 58, 49, 50, 49], [102, 111, 114, 103, 101, 32, 49, 58, 49, 50, 50, 44, 50, 58, 49, 51, 49]] : List (List UInt8)).length : Nat) : Int)).toNat).length ≤ 40 := by
    have : ∀ k : Nat, (wordF [[108, 111, 103], [119, 104, 97, 116], [], [115, 101, 101, 32, 57], [98, 114, 105, 110, 103], [102, 111, 114, 103, 101, 32, 49, 58, 49, 50, 49], [102, 111, 114, 103, 101, 32, 49, 58, 49, 50, 50, 44, 50, 58, 49, 51, 49]] k).length ≤ 40 := fun k => by
      match k with
      | 0 => decide
      | 1 => decide
      | 2 => decide
      | 3 => decide
      | 4 => decide
      | 5 => decide
      | 6 => decide
      | k + 7 => simp [wordF]
    exact this _
  generalize hbr : nx r0 1 = r9 at hpk6 hpk5 hpk3 hof
  have hr9 : r.p ≤ r9.p ∧ r9.p ≤ r.p + 10 := by rw [← hbr]; simp [nx]; omega
  clear hbr
  generalize wordF _ (pk r0 _).toNat = wd at hof hof'
  clear hpk hpay p1 p1' p2 p2' p3 p3' b0 c0 hf1 hf1a hf1b hf2 l2 l3 l4 hfrm hto hsum
  refine aB ?_
  refine aS (aS (aR ?_))
  refine oC (op_eql rfl rfl rfl) ?_
  refine oC (oA rfl (Conv.of rfl) rfl) ?_
  refine oN ?_
  refine aC rfl (fun h => ?_) (fun h => ?_)
  · refine aW ?_
    refine aC rfl (fun h2 => ?_) (fun h2 => by rw [show _ = true from h] at h2; cases h2)
    refine aS (aR ?_)
    refine oC (oA rfl (Conv.of rfl) rfl) ?_
    refine oN ?_
    refine aT ?_
    repeat first | refine rS ?_ | refine rB ?_
    exact ⟨_, _, res1 (ol := [(0, .cell r0)]) (.v rfl (Conv.of rfl)) (fun o ho => by cases ho) (olk rfl bC oln) (hK rfl), _, _, rfl, rfl, (by simp), by omega, by omega⟩
  refine aR ?_
  refine oC (op_eql rfl rfl rfl) ?_
  refine oC (oA rfl (Conv.of rfl) rfl) ?_
  refine oN ?_
  refine aC rfl (fun h => ?_) (fun h => ?_)
  · refine aS (aR ?_)
    refine oC (oA rfl (Conv.of rfl) rfl) ?_
    refine oN ?_
    refine aT ?_
    repeat first | refine rS ?_ | refine rB ?_
    exact ⟨_, _, res1 (ol := [(0, .cell r0)]) (.v rfl (Conv.of rfl)) (fun o ho => by cases ho) (olk rfl bC oln) (hK rfl), _, _, rfl, rfl, (by simp), by omega, by omega⟩
  refine aS (aS (aR ?_))
  refine oC (op_eql rfl rfl rfl) ?_
  refine oC (oA rfl (Conv.of rfl) rfl) ?_
  refine oN ?_
  refine aC rfl (fun h => ?_) (fun h => ?_)
  · refine aW ?_
    refine aC rfl (fun h2 => ?_) (fun h2 => by rw [show _ = true from h] at h2; cases h2)
    refine aS (aR ?_)
    refine oC (oM rfl (Conv.of rfl) rfl) ?_
    refine oC (op_adds rfl rfl rfl (by (simp; omega))) ?_
    refine oC (op_adds rfl rfl rfl (by (simp; omega))) ?_
    refine oC (oM rfl (Conv.of rfl) rfl) ?_
    refine oC (op_adds rfl rfl rfl (by (simp; omega))) ?_
    refine oC (oA rfl (Conv.of rfl) rfl) ?_
    refine oN ?_
    refine aT ?_
    repeat first | refine rS ?_ | refine rB ?_
    exact ⟨_, _, res1 (ol := [(0, .cell r0)]) (.v rfl (Conv.of rfl)) (fun o ho => by cases ho) (olk rfl bC oln) (hK rfl), _, _, rfl, rfl, (by simp; omega), by omega, by omega⟩
  refine aS (aR ?_)
  refine oC (op_eql rfl rfl rfl) ?_
  refine oC (oA rfl (Conv.of rfl) rfl) ?_
  refine oN ?_
  refine aC rfl (fun h => ?_) (fun h => ?_)
  · refine aW ?_
    refine aC rfl (fun h2 => ?_) (fun h2 => by rw [show _ = true from h] at h2; cases h2)
    refine aS (aR ?_)
    refine oC (oM rfl (Conv.of rfl) rfl) ?_
    refine oC (op_adds rfl rfl rfl (by (simp; omega))) ?_
    refine oC (op_adds rfl rfl rfl (by (simp; omega))) ?_
    refine oC (oM rfl (Conv.of rfl) rfl) ?_
    refine oC (op_adds rfl rfl rfl (by (simp; omega))) ?_
    refine oC (oA rfl (Conv.of rfl) rfl) ?_
    refine oN ?_
    refine aT ?_
    repeat first | refine rS ?_ | refine rB ?_
    exact ⟨_, _, res1 (ol := [(0, .cell r0)]) (.v rfl (Conv.of rfl)) (fun o ho => by cases ho) (olk rfl bC oln) (hK rfl), _, _, rfl, rfl, (by simp; omega), by omega, by omega⟩
  refine aR ?_
  refine oC (op_eql rfl rfl rfl) ?_
  refine oC (oA rfl (Conv.of rfl) rfl) ?_
  refine oN ?_
  refine aC rfl (fun h => ?_) (fun h => ?_)
  · refine aS (aR ?_)
    refine oC (oM rfl (Conv.of rfl) rfl) ?_
    refine oC (op_adds rfl rfl rfl (by (simp; omega))) ?_
    refine oC (op_adds rfl rfl rfl (by (simp; omega))) ?_
    refine oC (oM rfl (Conv.of rfl) rfl) ?_
    refine oC (op_adds rfl rfl rfl (by (simp; omega))) ?_
    refine oC (oA rfl (Conv.of rfl) rfl) ?_
    refine oN ?_
    refine aT ?_
    repeat first | refine rS ?_ | refine rB ?_
    exact ⟨_, _, res1 (ol := [(0, .cell r0)]) (.v rfl (Conv.of rfl)) (fun o ho => by cases ho) (olk rfl bC oln) (hK rfl), _, _, rfl, rfl, (by simp; omega), by omega, by omega⟩
  refine aS (aS (aR ?_))
  refine oC (op_eql rfl rfl rfl) ?_
  refine oC (oA rfl (Conv.of rfl) rfl) ?_
  refine oN ?_
  refine aC rfl (fun h => ?_) (fun h => ?_)
  · refine aW ?_
    refine aC rfl (fun h2 => ?_) (fun h2 => by rw [show _ = true from h] at h2; cases h2)
    refine aS (aR ?_)
    refine oC (oM rfl (Conv.of rfl) rfl) ?_
    refine oC (oLO fb18 (.cons rfl (Conv.of rfl) (.cons rfl (Conv.of rfl) (.nil _))) (hpk6) (olsk rfl ols0) (kK (by exact bC) k0) (kK (by exact bC) k0) rfl (argOb rfl rfl rfl (argOk' rfl rfl argO0)) (fun o ho => by cases ho) rfl) ?_
    refine oC (oL fb32 (.cons rfl (Conv.of rfl) (.nil _)) (l6Dec_ct _ (by omega)) (aK rfl rfl aK0) rfl rfl) ?_
    refine oC (op_adds rfl rfl rfl (by (simp; omega))) ?_
    refine oC (op_adds rfl rfl rfl (by (simp; omega))) ?_
    refine oC (oM rfl (Conv.of rfl) rfl) ?_
    refine oC (op_adds rfl rfl rfl (by (simp; omega))) ?_
    refine oC (oA rfl (Conv.of rfl) rfl) ?_
    refine oN ?_
    refine aT ?_
    repeat first | refine rS ?_ | refine rB ?_
    exact ⟨_, _, res1 (ol := [(0, .cell r9)]) (.v rfl (Conv.of rfl)) (fun o ho => by cases ho) (olk rfl bC oln) (hK rfl), _, _, rfl, rfl, (by simp; omega), by omega, by omega⟩
  refine aR ?_
  refine oC (op_eql rfl rfl rfl) ?_
  refine oC (oA rfl (Conv.of rfl) rfl) ?_
  refine oN ?_
  refine aC rfl (fun h => ?_) (fun h => ?_)
  · refine aS (aR ?_)
    refine oC (oM rfl (Conv.of rfl) rfl) ?_
    refine oC (oLO fb18 (.cons rfl (Conv.of rfl) (.cons rfl (Conv.of rfl) (.nil _))) (hpk6) (olsk rfl ols0) (kK (by exact bC) k0) (kK (by exact bC) k0) rfl (argOb rfl rfl rfl (argOk' rfl rfl argO0)) (fun o ho => by cases ho) rfl) ?_
    refine oC (oL fb32 (.cons rfl (Conv.of rfl) (.nil _)) (l6Dec_ct _ (by omega)) (aK rfl rfl aK0) rfl rfl) ?_
    refine oC (op_adds rfl rfl rfl (by (simp; omega))) ?_
    refine oC (op_adds rfl rfl rfl (by (simp; omega))) ?_
    refine oC (oM rfl (Conv.of rfl) rfl) ?_
    refine oC (op_adds rfl rfl rfl (by (simp; omega))) ?_
    refine oC (oA rfl (Conv.of rfl) rfl) ?_
    refine oN ?_
    refine aT ?_
    repeat first | refine rS ?_ | refine rB ?_
    exact ⟨_, _, res1 (ol := [(0, .cell r9)]) (.v rfl (Conv.of rfl)) (fun o ho => by cases ho) (olk rfl bC oln) (hK rfl), _, _, rfl, rfl, (by simp; omega), by omega, by omega⟩
  refine aS (aS (aR ?_))
  refine oC (op_eql rfl rfl rfl) ?_
  refine oC (oA rfl (Conv.of rfl) rfl) ?_
  refine oN ?_
  refine aC rfl (fun h => ?_) (fun h => ?_)
  · refine aW ?_
    refine aC rfl (fun h2 => ?_) (fun h2 => by rw [show _ = true from h] at h2; cases h2)
    refine aS (aR ?_)
    refine oC (oA rfl (Conv.of rfl) rfl) ?_
    refine oN ?_
    refine aT ?_
    repeat first | refine rS ?_ | refine rB ?_
    exact ⟨_, _, res1 (ol := [(0, .cell r0)]) (.v rfl (Conv.of rfl)) (fun o ho => by cases ho) (olk rfl bC oln) (hK rfl), _, _, rfl, rfl, (by simp), by omega, by omega⟩
  refine aR ?_
  refine oC (op_eql rfl rfl rfl) ?_
  refine oC (oA rfl (Conv.of rfl) rfl) ?_
  refine oN ?_
  refine aC rfl (fun h => ?_) (fun h => ?_)
  · refine aS (aR ?_)
    refine oC (oA rfl (Conv.of rfl) rfl) ?_
    refine oN ?_
    refine aT ?_
    repeat first | refine rS ?_ | refine rB ?_
    exact ⟨_, _, res1 (ol := [(0, .cell r0)]) (.v rfl (Conv.of rfl)) (fun o ho => by cases ho) (olk rfl bC oln) (hK rfl), _, _, rfl, rfl, (by simp), by omega, by omega⟩
  refine aS (aR ?_)
  refine oC (op_eql rfl rfl rfl) ?_
  refine oC (oA rfl (Conv.of rfl) rfl) ?_
  refine oN ?_
  refine aC rfl (fun h => ?_) (fun h => ?_)
  · refine aS (aR ?_)
    refine oC (oM rfl (Conv.of rfl) rfl) ?_
    refine oC (oLO fb18 (.cons rfl (Conv.of rfl) (.cons rfl (Conv.of rfl) (.nil _))) (hpk5) (olsk rfl ols0) (kK (by exact bC) k0) (kK (by exact bC) k0) rfl (argOb rfl rfl rfl (argOk' rfl rfl argO0)) (fun o ho => by cases ho) rfl) ?_
    refine oC (oL fb32 (.cons rfl (Conv.of rfl) (.nil _)) (l6Dec_ct _ (by omega)) (aK rfl rfl aK0) rfl rfl) ?_
    refine oC (op_adds rfl rfl rfl (by (simp; omega))) ?_
    refine oC (op_adds rfl rfl rfl (by (simp; omega))) ?_
    refine oC (oM rfl (Conv.of rfl) rfl) ?_
    refine oC (op_adds rfl rfl rfl (by (simp; omega))) ?_
    refine oC (oA rfl (Conv.of rfl) rfl) ?_
    refine oN ?_
    refine aT ?_
    repeat first | refine rS ?_ | refine rB ?_
    exact ⟨_, _, res1 (ol := [(0, .cell r9)]) (.v rfl (Conv.of rfl)) (fun o ho => by cases ho) (olk rfl bC oln) (hK rfl), _, _, rfl, rfl, (by simp; omega), by omega, by omega⟩
  refine aS (aR ?_)
  refine oC (op_eql rfl rfl rfl) ?_
  refine oC (oA rfl (Conv.of rfl) rfl) ?_
  refine oN ?_
  refine aC rfl (fun h => ?_) (fun h => ?_)
  · refine aS (aR ?_)
    refine oC (oM rfl (Conv.of rfl) rfl) ?_
    refine oC (op_adds rfl rfl rfl (by (simp; omega))) ?_
    refine oC (oA rfl (Conv.of rfl) rfl) ?_
    refine oN ?_
    refine aT ?_
    repeat first | refine rS ?_ | refine rB ?_
    exact ⟨_, _, res1 (ol := [(0, .cell r0)]) (.v rfl (Conv.of rfl)) (fun o ho => by cases ho) (olk rfl bC oln) (hK rfl), _, _, rfl, rfl, (by simp; omega), by omega, by omega⟩
  refine aS (aR ?_)
  refine oC (op_eql rfl rfl rfl) ?_
  refine oC (oA rfl (Conv.of rfl) rfl) ?_
  refine oN ?_
  refine aC rfl (fun h => ?_) (fun h => ?_)
  · refine aS (aR ?_)
    refine oC (oM rfl (Conv.of rfl) rfl) ?_
    refine oC (op_bsl sl29 z9 (.cons rfl (Conv.of rfl) (.cons rfl (Conv.of rfl) (.cons rfl (Conv.of rfl) (.cons rfl (Conv.of rfl) (.cons rfl (Conv.of rfl) (.cons rfl (Conv.of rfl) (.cons rfl (Conv.of rfl) (.nil _)))))))) rfl (by decide) rfl) ?_
    refine oC (oLO fb34 (.cons rfl (Conv.of rfl) (.cons rfl (Conv.ol) (.nil _))) (hof) (olsk rfl ols0) (kK (by exact bC) k0) (kK (by exact bC) k0) rfl (argOb rfl rfl rfl (argOk' rfl rfl argO0)) (fun o ho => by cases ho) rfl) ?_
    refine oC (oA rfl (Conv.of rfl) rfl) ?_
    refine oN ?_
    refine aT ?_
    repeat first | refine rS ?_ | refine rB ?_
    exact ⟨_, _, res1 (ol := [(0, .cell r9)]) (.v rfl (Conv.of rfl)) (fun o ho => by cases ho) (olk rfl bC oln) (hK rfl), _, _, rfl, rfl, (by exact hof'), by omega, by omega⟩
  refine aW ?_
  refine aS (aR ?_)
  refine oC (oM rfl (Conv.of rfl) rfl) ?_
  refine oC (oLO fb18 (.cons rfl (Conv.of rfl) (.cons rfl (Conv.of rfl) (.nil _))) (hpk3) (olsk rfl ols0) (kK (by exact bC) k0) (kK (by exact bC) k0) rfl (argOb rfl rfl rfl (argOk' rfl rfl argO0)) (fun o ho => by cases ho) rfl) ?_
  refine oC (oP rfl rfl rfl (by omega)) ?_
  refine oC (oL fb32 (.cons rfl (Conv.of rfl) (.nil _)) (l6Dec_ct _ (by omega)) (aK rfl rfl aK0) rfl rfl) ?_
  refine oC (op_adds rfl rfl rfl (by (simp; omega))) ?_
  refine oC (op_adds rfl rfl rfl (by (simp; omega))) ?_
  refine oC (oM rfl (Conv.of rfl) rfl) ?_
  refine oC (op_adds rfl rfl rfl (by (simp; omega))) ?_
  refine oC (oA rfl (Conv.of rfl) rfl) ?_
  refine oN ?_
  refine aT ?_
  repeat first | refine rS ?_ | refine rB ?_
  exact ⟨_, _, res1 (ol := [(0, .cell r9)]) (.v rfl (Conv.of rfl)) (fun o ho => by cases ho) (olk rfl bC oln) (hK rfl), _, _, rfl, rfl, (by simp; omega), by omega, by omega⟩
end Go.Proofs.YtgfoeiieopnlaaaGreatDoor

/- A drawn script. -/
set_option linter.unusedVariables false
set_option linter.unusedSimpArgs false
namespace Go.Proofs.YtgfoeiieopnlaaaGreatDoor
open Go Go.Wt
theorem many_bd {i n a b : Nat} (hi : i ≤ 8) (hn : n < 2 ^ (8 - i)) (ha : a ≤ 5 * 2 ^ i) (hb : b ≤ 5 * 2 ^ i) (h0 : 0 < n) : i + 1 ≤ 8 ∧ n / 2 < 2 ^ (8 - (i + 1)) ∧ a + a ≤ 5 * 2 ^ (i + 1) ∧ b + a ≤ 5 * 2 ^ (i + 1) ∧ b ≤ 5 * 2 ^ (i + 1) ∧ a ≤ 1280 ∧ b ≤ 1280 ∧ n < 256 := by
  have : i = 0 ∨ i = 1 ∨ i = 2 ∨ i = 3 ∨ i = 4 ∨ i = 5 ∨ i = 6 ∨ i = 7 ∨ i = 8 := by omega
  rcases this with e | e | e | e | e | e | e | e | e <;> subst e <;> simp at hn ha hb ⊢ <;> omega
theorem many_out {i b : Nat} (hi : i ≤ 8) (hb : b ≤ 5 * 2 ^ i) : b ≤ 1280 := by
  have : 2 ^ i ≤ 2 ^ 8 := Nat.pow_le_pow_right (by decide) hi
  have h2 : (2 : Nat) ^ 8 = 256 := by decide
  omega
set_option maxHeartbeats 1000000 in
theorem l6Many_ct (s0 : List UInt8) (n0 : Nat) (hs : TextOk s0) (hl : s0.length ≤ 5) (hn : n0 < 256) : Ct Tryz.prog 20 [.v (bs s0), .v (n0 : Int)] noObj (fun r1 h1 => ∃ x : List UInt8, r1 = .v (bs x) ∧ h1 = obs [] ∧ TextOk x ∧ x.length ≤ 1280) := by
  refine Ct.intro Tryz.func20 rfl rfl ?_
  refine aS (aR ?_)
  refine oC (oA rfl (Conv.of rfl) rfl) ?_
  refine oN ?_
  refine aS (aR ?_)
  refine oC (oA rfl (Conv.of rfl) rfl) ?_
  refine oN ?_
  refine aS (aB ?_)
  refine awp_loop' (fun n_ s => ∃ (n : Nat), ∃ (u : List UInt8), ∃ (out : List UInt8), ∃ (i : Nat), ∃ (hk : n_ = n), ∃ (h1 : TextOk u), ∃ (h2 : TextOk out), ∃ (hi : i ≤ 8), ∃ (h3 : n < 2 ^ (8 - i)), ∃ (h4 : u.length ≤ 5 * 2 ^ i), ∃ (h5 : out.length ≤ 5 * 2 ^ i), s = mkSt 20 [(0, .v (bs u)), (1, .v (n : Int)), (5, .v (bs out))] []) (n0) ⟨n0, s0, [], 0, rfl, hs, .inl rfl, by omega, by simpa using hn, by simpa using hl, by simp, rfl⟩ (Le.mk rfl (tle rfl (rfl) rfl (tle rfl (by rfl) rfl (tle rfl (rfl) rfl tln))) oln noS) ?_
  rintro n_ s ⟨n, u, out, i, hk, h1, h2, hi, h3, h4, h5, rfl⟩
  refine aS (aS (aR ?_))
  refine oC (oM rfl (Conv.of rfl) rfl) ?_
  refine oC (op_gtr rfl rfl rfl) ?_
  refine oN ?_
  refine aC rfl (fun h => ?_) (fun h => ?_)
  · have hpos : 0 < n := by
      have : (0 : Int) < (n : Int) := of_decide_eq_true h
      omega
    obtain ⟨b1, b2, b3, b4, b5, b6, b7, b8⟩ := many_bd hi h3 h4 h5 hpos
    have hq : (n : Int).tdiv 2 = ((n / 2 : Nat) : Int) := by rw [Int.tdiv_eq_ediv_of_nonneg (by omega)]; rfl
    refine aW ?_
    refine aB ?_
    refine aS (aS (aR ?_))
    refine oC (oM rfl (Conv.of rfl) rfl) ?_
    refine oC (op_rem rfl rfl rfl (by decide)) ?_
    refine oC (op_eql rfl rfl rfl) ?_
    refine oN ?_
    refine aC rfl (fun h2' => ?_) (fun h2' => ?_)
    · refine aR ?_
      refine oC (oM rfl (Conv.of rfl) rfl) ?_
      refine oC (oM rfl (Conv.of rfl) rfl) ?_
      refine oC (op_adds rfl rfl rfl (by omega)) ?_
      refine oC (oA rfl (Conv.of rfl) rfl) ?_
      refine oN ?_
      refine aS (aR ?_)
      refine oC (oM rfl (Conv.of rfl) rfl) ?_
      refine oC (oM rfl (Conv.of rfl) rfl) ?_
      refine oC (op_adds rfl rfl rfl (by omega)) ?_
      refine oC (oA rfl (Conv.of rfl) rfl) ?_
      refine oN ?_
      refine aR ?_
      refine oC (oM rfl (Conv.of rfl) rfl) ?_
      refine oC (op_quo rfl rfl rfl (by decide)) ?_
      refine oC (oA rfl (Conv.of rfl) rfl) ?_
      refine oN ?_
      repeat first | refine nS ?_ | refine nB ?_
      exact ⟨n / 2, _, by omega, ⟨n / 2, u ++ u, out ++ u, i + 1, rfl, h1.app h1, h2.app h1, b1, b2, by rw [List.length_append]; exact b3, by rw [List.length_append]; exact b4, rfl⟩, Le.mk rfl (tle rfl (rfl) rfl (tle rfl (by (rw [hq, wrap_in (by omega)])) rfl (tle rfl (rfl) rfl tln))) oln noS⟩
    · refine aW ?_
      refine aS (aR ?_)
      refine oC (oM rfl (Conv.of rfl) rfl) ?_
      refine oC (oM rfl (Conv.of rfl) rfl) ?_
      refine oC (op_adds rfl rfl rfl (by omega)) ?_
      refine oC (oA rfl (Conv.of rfl) rfl) ?_
      refine oN ?_
      refine aR ?_
      refine oC (oM rfl (Conv.of rfl) rfl) ?_
      refine oC (op_quo rfl rfl rfl (by decide)) ?_
      refine oC (oA rfl (Conv.of rfl) rfl) ?_
      refine oN ?_
      repeat first | refine nS ?_ | refine nB ?_
      exact ⟨n / 2, _, by omega, ⟨n / 2, u ++ u, out, i + 1, rfl, h1.app h1, h2, b1, b2, by rw [List.length_append]; exact b3, b5, rfl⟩, Le.mk rfl (tle rfl (rfl) rfl (tle rfl (by (rw [hq, wrap_in (by omega)])) rfl (tle rfl (rfl) rfl tln))) oln noS⟩
  · refine aE ?_
    repeat refine ex_seq ?_
    refine eB ?_
    refine aS (aR ?_)
    refine oC (oM rfl (Conv.of rfl) rfl) ?_
    refine oC (oA rfl (Conv.of rfl) rfl) ?_
    refine oN ?_
    refine aT ?_
    repeat first | refine rS ?_ | refine rB ?_
    exact ⟨_, _, res1 (ol := []) (.v rfl (Conv.of rfl)) (fun o ho => by cases ho) trivial noS, out, rfl, rfl, h2, many_out hi h5⟩
set_option maxHeartbeats 2000000 in
theorem drawLines_ct (code : List UInt8) : Ct Tryz.prog 14 [.v code] noObj (fun r1 h1 => ∃ (bad : Int) (text : List UInt8), r1 = .tup [.v bad, .v (bs text)] ∧ h1 = obs [] ∧ TextOk text ∧ text.length ≤ 10000) := by
  refine Ct.intro Tryz.func14 rfl rfl ?_
  refine aS (aR ?_)
  refine oC (oA rfl (Conv.of rfl) rfl) ?_
  refine oC (oA rfl (Conv.of rfl) rfl) ?_
  refine oN ?_
  refine aS (aR ?_)
  refine oC (oM rfl (Conv.of rfl) rfl) ?_
  refine awpOps_callO [] rfl fb17 (.cons rfl (Conv.of rfl) (.nil _)) (l6Open_ct code) ols0 k0 (argOk' rfl rfl argO0) rfl ?_
  rintro r_ h' ⟨rfl, rfl⟩
  refine ⟨[(0, .cell (Rd.mk (code.take 2000) 0))], rfl, (fun o ho => by cases ho), fun o ho _ => ?_, kK bC k0, fun o ho => ?_, ?_⟩
  · have : o = 0 := by simpa [keys, lk0] using ho
    subst this; rfl
  · have : o = 0 := by simpa using (show o ∈ [0] from ho)
    subst this; rfl
  have hf0 : Far 1000 (Rd.mk (code.take 2000) 0) := ⟨by simp, by simp⟩
  generalize Rd.mk (code.take 2000) 0 = r0 at hf0 ⊢
  refine oC (oA rfl (Conv.of rfl) rfl) ?_
  refine oN ?_
  have hk0 := pk_bd hf0 (by omega) 14
  have hk0' := hk0.2 (by omega)
  have hf1 : Far 1001 (nx r0 1) := hf0.nx (by omega) (by omega)
  refine aS (aR ?_)
  refine oC (oA rfl (Conv.of rfl) rfl) ?_
  refine oN ?_
  refine aS (aS (aR ?_))
  refine oC (oM rfl (Conv.of rfl) rfl) ?_
  refine oC (oLO fb18 (.cons rfl (Conv.of rfl) (.cons rfl (Conv.of rfl) (.nil _))) (pick_ct r0 14 (by unfold Far at hf0; omega)) (olsk rfl ols0) (kK (by exact bC) k0) (kK (by exact bC) k0) rfl (argOb rfl rfl rfl (argOk' rfl rfl argO0)) (fun o ho => by cases ho) rfl) ?_
  refine oC (oA rfl (Conv.of rfl) rfl) ?_
  refine oN ?_
  generalize pk r0 14 = n0 at hk0 hk0' ⊢
  generalize nx r0 1 = r1 at hf1 ⊢
  refine aB ?_
  refine awp_loop' (fun n_ s => ∃ (k : Nat), ∃ (u : List UInt8), ∃ (r : Rd), ∃ (hk : n_ + k = n0.toNat), ∃ (h1 : TextOk u), ∃ (h2 : u.length ≤ 41 * k), ∃ (h3 : Far (1001 + 10 * (k : Int)) r), s = mkSt 34 [(4, .box 0 (IsLens.whole Rd)), (5, .v (bs u)), (6, .v (n0 - (k : Int)))] [(0, .cell r)]) (n0.toNat) ⟨0, [], r1, by omega, .inl rfl, by simp, by simpa using hf1, rfl⟩ (Le.mk rfl (tlb rfl rfl rfl (tle rfl (rfl) rfl (tle rfl (by (show AV.v _ = AV.v _; congr 1; omega)) rfl tln))) (olk rfl (by exact bC) oln) noS) ?_
  rintro n_ s ⟨k, u, r, hk, h1, h2, h3, rfl⟩
  refine aS (aS (aR ?_))
  refine oC (oM rfl (Conv.of rfl) rfl) ?_
  refine oC (op_gtr rfl rfl rfl) ?_
  refine oN ?_
  refine aC rfl (fun h => ?_) (fun h => ?_)
  · have hpos : (0 : Int) < n0 - (k : Int) := of_decide_eq_true h
    refine aW ?_
    refine aS (aB ?_)
    refine aR ?_
    refine oC (oM rfl (Conv.of rfl) rfl) ?_
    refine oC (oM rfl (Conv.of rfl) rfl) ?_
    refine awpOps_callE (ι := List UInt8 × Rd) [(0, .cell r)] (fun i => .v (bs i.1)) (fun i => [(0, .cell i.2)]) (fun i => i.1.length ≤ 40 ∧ r.p ≤ i.2.p ∧ i.2.p ≤ r.p + 10) rfl fb19 (.cons rfl (Conv.of rfl) (.nil _)) (l72Line_ct r (h3.weak (by omega))) (fun r h' ⟨v, r', e1, e2, e3, e4, e5⟩ => ⟨(v, r'), e1, e2, e3, e4, e5⟩) (olsk rfl ols0) (kK bC k0) (argOb rfl rfl rfl argO0) rfl (fun i => rfl) (fun i => kK bC k0) (fun i o ho => by cases ho) ?_
    rintro ⟨e, r3⟩ ⟨q1, q2, q3⟩
    simp only at q1 q2 q3 ⊢
    have hf4 : Far (1001 + 10 * ((k + 1 : Nat) : Int)) r3 := by unfold Far at h3 ⊢; omega
    refine oC (op_adds rfl rfl rfl (by omega)) ?_
    refine oC (op_adds rfl rfl rfl (by (simp; omega))) ?_
    refine oC (oA rfl (Conv.of rfl) rfl) ?_
    refine oN ?_
    refine aR ?_
    refine oC (oM rfl (Conv.of rfl) rfl) ?_
    refine oC (op_sub rfl rfl rfl (by omega)) ?_
    refine oC (oA rfl (Conv.of rfl) rfl) ?_
    refine oN ?_
    repeat first | refine nS ?_ | refine nB ?_
    exact ⟨n_ - 1, _, by omega, ⟨k + 1, u ++ e ++ [10], r3, by omega, .line _, by rw [List.length_append, List.length_append]; simp only [List.length_cons, List.length_nil]; omega, hf4, rfl⟩, Le.mk rfl (tlb rfl rfl rfl (tle rfl (rfl) rfl (tle rfl (by (show AV.v _ = AV.v _; congr 1; omega)) rfl tln))) (olk rfl (by exact bC) oln) noS⟩
  · refine aE ?_
    repeat refine ex_seq ?_
    refine eB ?_
    have hk13 : k ≤ 13 := by omega
    have hff : Far 2000 r := h3.weak (by omega)
    have e0 := pk_bd hff (by omega) 40
    have hf5 : Far 2001 (nx r 1) := hff.nx (by omega) (by omega)
    refine aS (aS (aR ?_))
    refine oC (oM rfl (Conv.of rfl) rfl) ?_
    refine oC (oLO fb18 (.cons rfl (Conv.of rfl) (.cons rfl (Conv.of rfl) (.nil _))) (pick_ct r 40 (by unfold Far at hff; omega)) (olsk rfl ols0) (kK (by exact bC) k0) (kK (by exact bC) k0) rfl (argOb rfl rfl rfl (argOk' rfl rfl argO0)) (fun o ho => by cases ho) rfl) ?_
    refine oC (op_eql rfl rfl rfl) ?_
    refine oN ?_
    generalize nx r 1 = r2 at hf5 ⊢
    have e1 := pk_bd hf5 (by omega) 5
    have e1' := e1.2 (by omega)
    have hf6 : Far 2002 (nx r2 1) := hf5.nx (by omega) (by omega)
    have e2 := pk_bd hf6 (by omega) 24
    have e2' := e2.2 (by omega)
    have hpk5 := pick_ct r2 5 (by unfold Far at hf5; omega)
    have hpk24 := pick_ct (nx r2 1) 24 (by unfold Far at hf6; omega)
    generalize pk r2 5 = a5 at e1 e1' hpk5
    generalize pk (nx r2 1) 24 = a24 at e2 e2' hpk24
    have ht : 0 ≤ a24.tdiv 23 ∧ a24.tdiv 23 ≤ 1 := by rw [Int.tdiv_eq_ediv_of_nonneg (by omega)]; omega
    have hw := wrap_in (show -9223372036854775808 ≤ a24.tdiv 23 ∧ a24.tdiv 23 < 9223372036854775808 by omega)
    refine aC rfl (fun h4 => ?_) (fun h4 => ?_)
    · refine aR ?_
      refine oC (oM rfl (Conv.of rfl) rfl) ?_
      refine awpOps_callE (ι := List UInt8) [] (fun i => .v (bs i)) (fun i => []) (fun i => TextOk i ∧ i.length ≤ 1280) rfl fb20 (.cons rfl (Conv.of rfl) (.cons rfl (Conv.of rfl) (.nil _))) (l6Many_ct [116, 105, 99, 107, 10] 130 (.inr ⟨[116, 105, 99, 107], rfl⟩) (by decide) (by decide)) (fun r h' ⟨v, e1, e2, e3, e4⟩ => ⟨v, e1, e2, e3, e4⟩) ols0 k0 (argOk' rfl rfl (argOk' rfl rfl argO0)) rfl (fun i => rfl) (fun i => k0) (fun i o ho => by cases ho) ?_
      rintro y ⟨y1, y2⟩
      refine oC (op_adds rfl rfl rfl (by omega)) ?_
      refine oC (oA rfl (Conv.of rfl) rfl) ?_
      refine oN ?_
      refine aS (aR ?_)
      refine oC (oM rfl (Conv.of rfl) rfl) ?_
      refine oC (oLO fb18 (.cons rfl (Conv.of rfl) (.cons rfl (Conv.of rfl) (.nil _))) (hpk5) (olsk rfl ols0) (kK (by exact bC) k0) (kK (by exact bC) k0) rfl (argOb rfl rfl rfl (argOk' rfl rfl argO0)) (fun o ho => by cases ho) rfl) ?_
      refine oC (oM rfl (Conv.of rfl) rfl) ?_
      refine oC (oLO fb18 (.cons rfl (Conv.of rfl) (.cons rfl (Conv.of rfl) (.nil _))) (hpk24) (olsk rfl ols0) (kK (by exact bC) k0) (kK (by exact bC) k0) rfl (argOb rfl rfl rfl (argOk' rfl rfl argO0)) (fun o ho => by cases ho) rfl) ?_
      refine oC (op_quo rfl rfl rfl (by decide)) ?_
      refine oC (op_mul rfl rfl rfl (by (rw [hw]; omega))) ?_
      refine oC (oP rfl rfl rfl (by (rw [hw]; omega))) ?_
      refine oC (oM rfl (Conv.of rfl) rfl) ?_
      refine oC (oA rfl (Conv.of rfl) rfl) ?_
      refine oC (oA rfl (Conv.of rfl) rfl) ?_
      refine oN ?_
      refine aT ?_
      repeat first | refine rS ?_ | refine rB ?_
      exact ⟨_, _, resN (ol := []) (.cons (.v rfl (Conv.of rfl)) (.cons (.v rfl (Conv.of rfl)) .nil)) rfl (fun o ho => absurd (show o ∈ ([] : List Nat) from ho) (by simp)) oln noS, _, _, rfl, rfl, h1.app y1, by rw [List.length_append]; omega⟩
    · refine aW ?_
      refine aS (aR ?_)
      refine oC (oM rfl (Conv.of rfl) rfl) ?_
      refine oC (oLO fb18 (.cons rfl (Conv.of rfl) (.cons rfl (Conv.of rfl) (.nil _))) (hpk5) (olsk rfl ols0) (kK (by exact bC) k0) (kK (by exact bC) k0) rfl (argOb rfl rfl rfl (argOk' rfl rfl argO0)) (fun o ho => by cases ho) rfl) ?_
      refine oC (oM rfl (Conv.of rfl) rfl) ?_
      refine oC (oLO fb18 (.cons rfl (Conv.of rfl) (.cons rfl (Conv.of rfl) (.nil _))) (hpk24) (olsk rfl ols0) (kK (by exact bC) k0) (kK (by exact bC) k0) rfl (argOb rfl rfl rfl (argOk' rfl rfl argO0)) (fun o ho => by cases ho) rfl) ?_
      refine oC (op_quo rfl rfl rfl (by decide)) ?_
      refine oC (op_mul rfl rfl rfl (by (rw [hw]; omega))) ?_
      refine oC (oP rfl rfl rfl (by (rw [hw]; omega))) ?_
      refine oC (oM rfl (Conv.of rfl) rfl) ?_
      refine oC (oA rfl (Conv.of rfl) rfl) ?_
      refine oC (oA rfl (Conv.of rfl) rfl) ?_
      refine oN ?_
      refine aT ?_
      repeat first | refine rS ?_ | refine rB ?_
      exact ⟨_, _, resN (ol := []) (.cons (.v rfl (Conv.of rfl)) (.cons (.v rfl (Conv.of rfl)) .nil)) rfl (fun o ho => absurd (show o ∈ ([] : List Nat) from ho) (by simp)) oln noS, _, _, rfl, rfl, h1, by omega⟩
end Go.Proofs.YtgfoeiieopnlaaaGreatDoor

/- What some scripts print. -/
set_option linter.unusedVariables false
namespace Go.Wt
open Go
theorem sc_calmA : linesF 0 [99, 97, 108, 109, 32, 52, 32, 49, 50, 49, 10] = [49, 32, 104, 97, 115, 32, 51, 32, 54, 32, 49, 50, 32, 57, 10, 50, 32, 104, 97, 115, 32, 51, 32, 54, 32, 49, 50, 32, 57, 10, 51, 32, 104, 97, 115, 32, 51, 32, 54, 32, 49, 50, 32, 57, 10, 52, 32, 104, 97, 115, 32, 51, 32, 54, 32, 49, 50, 32, 57, 10] := by decide +kernel
theorem sc_calmB : linesF 0 [99, 97, 108, 109, 32, 50, 32, 49, 50, 49, 10] = [49, 32, 104, 97, 115, 32, 48, 32, 57, 32, 57, 32, 57, 10, 50, 32, 104, 97, 115, 32, 48, 32, 57, 32, 57, 32, 57, 10, 51, 32, 104, 97, 115, 32, 48, 32, 57, 32, 57, 32, 57, 10, 52, 32, 104, 97, 115, 32, 48, 32, 57, 32, 57, 32, 57, 10] := by decide +kernel
theorem sc_calmC : linesF 4 [99, 97, 108, 109, 32, 51, 32, 51, 49, 53, 10] = [49, 32, 104, 97, 115, 32, 50, 32, 49, 52, 32, 57, 32, 52, 10, 50, 32, 104, 97, 115, 32, 50, 32, 49, 52, 32, 57, 32, 52, 10, 51, 32, 104, 97, 115, 32, 50, 32, 49, 52, 32, 57, 32, 52, 10] := by decide +kernel
theorem sc_forgeA : linesF 1 [116, 105, 99, 107, 10, 102, 111, 114, 103, 101, 32, 49, 58, 49, 50, 49, 10, 102, 111, 114, 103, 101, 32, 49, 58, 49, 51, 49, 10, 98, 114, 105, 110, 103, 32, 48, 32, 50, 10, 98, 114, 105, 110, 103, 32, 49, 32, 51, 10, 98, 114, 105, 110, 103, 32, 48, 32, 52, 10, 115, 112, 114, 101, 97, 100, 10] = [50, 32, 104, 97, 115, 32, 48, 32, 57, 32, 57, 32, 57, 10, 51, 32, 104, 97, 115, 32, 48, 32, 57, 32, 57, 32, 57, 10, 52, 32, 104, 97, 115, 32, 48, 32, 57, 32, 57, 32, 57, 10] := by decide +kernel
theorem sc_poorA : linesF 0 [99, 97, 108, 109, 32, 53, 32, 50, 49, 57, 10, 115, 101, 101, 32, 51, 10] = [51, 32, 104, 97, 115, 32, 52, 32, 49, 56, 32, 48, 32, 57, 10, 49, 32, 104, 97, 115, 32, 52, 32, 49, 56, 32, 48, 32, 57, 10, 50, 32, 104, 97, 115, 32, 52, 32, 49, 56, 32, 48, 32, 57, 10, 51, 32, 104, 97, 115, 32, 52, 32, 49, 56, 32, 48, 32, 57, 10, 52, 32, 104, 97, 115, 32, 52, 32, 49, 56, 32, 48, 32, 57, 10] := by decide +kernel
theorem sc_poorB : linesF 0 [99, 97, 108, 109, 32, 51, 32, 49, 49, 48, 10] = [49, 32, 104, 97, 115, 32, 48, 32, 57, 32, 57, 32, 57, 10, 50, 32, 104, 97, 115, 32, 48, 32, 57, 32, 57, 32, 57, 10, 51, 32, 104, 97, 115, 32, 48, 32, 57, 32, 57, 32, 57, 10, 52, 32, 104, 97, 115, 32, 48, 32, 57, 32, 57, 32, 57, 10] := by decide +kernel
theorem sc_none0 : linesF 0 [] = [49, 32, 104, 97, 115, 32, 48, 32, 57, 32, 57, 32, 57, 10, 50, 32, 104, 97, 115, 32, 48, 32, 57, 32, 57, 32, 57, 10, 51, 32, 104, 97, 115, 32, 48, 32, 57, 32, 57, 32, 57, 10, 52, 32, 104, 97, 115, 32, 48, 32, 57, 32, 57, 32, 57, 10] := by decide +kernel
theorem sc_otherA : linesF 0 [116, 105, 99, 107, 10, 112, 114, 111, 112, 111, 115, 101, 32, 50, 32, 49, 50, 49, 10, 112, 114, 111, 112, 111, 115, 101, 32, 51, 32, 49, 50, 49, 10, 108, 111, 103, 10] = [48, 10, 49, 32, 104, 97, 115, 32, 48, 32, 57, 32, 57, 32, 57, 10, 50, 32, 104, 97, 115, 32, 48, 32, 57, 32, 57, 32, 57, 10, 51, 32, 104, 97, 115, 32, 48, 32, 57, 32, 57, 32, 57, 10, 52, 32, 104, 97, 115, 32, 48, 32, 57, 32, 57, 32, 57, 10] := by decide +kernel
theorem sc_otherB : linesF 0 [116, 105, 99, 107, 10, 112, 114, 111, 112, 111, 115, 101, 32, 49, 32, 49, 50, 49, 10, 112, 114, 111, 112, 111, 115, 101, 32, 49, 32, 49, 51, 49, 10, 108, 111, 103, 10] = [49, 10, 49, 32, 104, 97, 115, 32, 48, 32, 57, 32, 57, 32, 57, 10, 50, 32, 104, 97, 115, 32, 48, 32, 57, 32, 57, 32, 57, 10, 51, 32, 104, 97, 115, 32, 48, 32, 57, 32, 57, 32, 57, 10, 52, 32, 104, 97, 115, 32, 48, 32, 57, 32, 57, 32, 57, 10] := by decide +kernel
theorem sc_otherC : linesF 0 [116, 105, 99, 107, 10, 112, 114, 111, 112, 111, 115, 101, 32, 49, 32, 49, 50, 49, 10, 98, 114, 105, 110, 103, 32, 48, 32, 51, 10, 108, 111, 103, 10] = [50, 10, 49, 32, 104, 97, 115, 32, 48, 32, 57, 32, 57, 32, 57, 10, 50, 32, 104, 97, 115, 32, 48, 32, 57, 32, 57, 32, 57, 10, 51, 32, 104, 97, 115, 32, 48, 32, 57, 32, 57, 32, 57, 10, 52, 32, 104, 97, 115, 32, 48, 32, 57, 32, 57, 32, 57, 10] := by decide +kernel
theorem sc_otherD : linesF 0 [112, 114, 111, 112, 111, 115, 101, 32, 49, 32, 49, 50, 49, 10, 108, 111, 103, 10] = [48, 10, 49, 32, 104, 97, 115, 32, 48, 32, 57, 32, 57, 32, 57, 10, 50, 32, 104, 97, 115, 32, 48, 32, 57, 32, 57, 32, 57, 10, 51, 32, 104, 97, 115, 32, 48, 32, 57, 32, 57, 32, 57, 10, 52, 32, 104, 97, 115, 32, 48, 32, 57, 32, 57, 32, 57, 10] := by decide +kernel
theorem sc_stepsA : linesF 0 [99, 97, 108, 109, 32, 49, 32, 49, 50, 49, 10, 99, 97, 108, 109, 32, 49, 32, 50, 51, 50, 10, 99, 97, 108, 109, 32, 49, 32, 51, 49, 51, 10, 108, 111, 103, 10] = [49, 50, 10, 49, 32, 104, 97, 115, 32, 50, 32, 56, 32, 56, 32, 49, 49, 10, 50, 32, 104, 97, 115, 32, 50, 32, 56, 32, 56, 32, 49, 49, 10, 51, 32, 104, 97, 115, 32, 50, 32, 56, 32, 56, 32, 49, 49, 10, 52, 32, 104, 97, 115, 32, 50, 32, 56, 32, 56, 32, 49, 49, 10] := by decide +kernel
theorem sc_stepsB : linesF 0 [116, 105, 99, 107, 10, 112, 114, 111, 112, 111, 115, 101, 32, 49, 32, 49, 50, 49, 10, 115, 112, 114, 101, 97, 100, 10, 116, 105, 99, 107, 10, 112, 114, 111, 112, 111, 115, 101, 32, 50, 32, 50, 51, 50, 10, 115, 112, 114, 101, 97, 100, 10, 116, 105, 99, 107, 10, 115, 112, 114, 101, 97, 100, 10, 112, 114, 111, 112, 111, 115, 101, 32, 51, 32, 51, 49, 51, 10, 115, 112, 114, 101, 97, 100, 10, 108, 111, 103, 10] = [49, 50, 10, 49, 32, 104, 97, 115, 32, 50, 32, 56, 32, 56, 32, 49, 49, 10, 50, 32, 104, 97, 115, 32, 50, 32, 56, 32, 56, 32, 49, 49, 10, 51, 32, 104, 97, 115, 32, 50, 32, 56, 32, 56, 32, 49, 49, 10, 52, 32, 104, 97, 115, 32, 50, 32, 56, 32, 56, 32, 49, 49, 10] := by decide +kernel
theorem sc_forgeB : linesF 1 [116, 105, 99, 107, 10, 102, 111, 114, 103, 101, 32, 49, 58, 49, 50, 49, 10, 102, 111, 114, 103, 101, 32, 49, 58, 49, 51, 49, 10, 98, 114, 105, 110, 103, 32, 48, 32, 50, 10, 98, 114, 105, 110, 103, 32, 49, 32, 51, 10, 98, 114, 105, 110, 103, 32, 48, 32, 52, 10, 115, 112, 114, 101, 97, 100, 10, 99, 97, 108, 109, 32, 52, 32, 50, 51, 50, 10] = [50, 32, 104, 97, 115, 32, 51, 32, 56, 32, 54, 32, 49, 51, 10, 51, 32, 104, 97, 115, 32, 51, 32, 56, 32, 54, 32, 49, 51, 10, 52, 32, 104, 97, 115, 32, 51, 32, 56, 32, 54, 32, 49, 51, 10] := by decide +kernel
theorem sc_three1 : linesF 1 [99, 97, 108, 109, 32, 56, 32, 49, 51, 49, 10] = [50, 32, 104, 97, 115, 32, 53, 32, 52, 32, 57, 32, 49, 52, 10, 51, 32, 104, 97, 115, 32, 53, 32, 52, 32, 57, 32, 49, 52, 10, 52, 32, 104, 97, 115, 32, 53, 32, 52, 32, 57, 32, 49, 52, 10] := by decide +kernel
theorem sc_three2 : linesF 2 [99, 97, 108, 109, 32, 56, 32, 49, 51, 49, 10] = [49, 32, 104, 97, 115, 32, 51, 32, 54, 32, 57, 32, 49, 50, 10, 51, 32, 104, 97, 115, 32, 51, 32, 54, 32, 57, 32, 49, 50, 10, 52, 32, 104, 97, 115, 32, 51, 32, 54, 32, 57, 32, 49, 50, 10] := by decide +kernel
theorem sc_three3 : linesF 3 [99, 97, 108, 109, 32, 56, 32, 49, 51, 49, 10] = [49, 32, 104, 97, 115, 32, 52, 32, 53, 32, 57, 32, 49, 51, 10, 50, 32, 104, 97, 115, 32, 52, 32, 53, 32, 57, 32, 49, 51, 10, 52, 32, 104, 97, 115, 32, 52, 32, 53, 32, 57, 32, 49, 51, 10] := by decide +kernel
theorem sc_three4 : linesF 4 [99, 97, 108, 109, 32, 56, 32, 49, 51, 49, 10] = [49, 32, 104, 97, 115, 32, 53, 32, 52, 32, 57, 32, 49, 52, 10, 50, 32, 104, 97, 115, 32, 53, 32, 52, 32, 57, 32, 49, 52, 10, 51, 32, 104, 97, 115, 32, 53, 32, 52, 32, 57, 32, 49, 52, 10] := by decide +kernel
def rangeB : List Int := [0, 1, 2, 3, 4]
theorem in_range {bad : Int} (h : within bad 0 4 = true) : bad ∈ rangeB := by
  have h2 : 0 ≤ bad ∧ bad ≤ 4 := by simpa [within] using h
  simp only [rangeB, List.mem_cons, List.not_mem_nil, or_false]
  omega
theorem noneA : ∀ bad ∈ rangeB, linesF bad [119, 104, 97, 116, 10, 115, 101, 101, 32, 53, 10, 108, 111, 103, 10] = [119, 104, 97, 116, 10, 119, 104, 97, 116, 10, 48, 10] ++ linesF bad [] := by decide +kernel
theorem noneB : ∀ bad ∈ rangeB, linesF bad [112, 114, 111, 112, 111, 115, 101, 32, 49, 32, 49, 50, 49, 10, 98, 114, 105, 110, 103, 32, 48, 32, 49, 10, 102, 111, 114, 103, 101, 32, 49, 10] = linesF bad [] := by decide +kernel
def ticksT (k : Nat) : List UInt8 := (List.replicate k [116, 105, 99, 107, 10, 115, 112, 114, 101, 97, 100, 10]).flatten
theorem ticksA : ∀ bad ∈ rangeB, ∀ k ∈ [0, 1, 2, 3, 4, 5, 6, 7], linesF bad (ticksT k ++ [108, 111, 103, 10]) = [48, 10] ++ linesF bad [] := by decide +kernel
theorem none_len : ∀ bad ∈ rangeB, (linesF bad []).length ≤ 60 := by decide +kernel
end Go.Wt

/- Scripts, one behind the other; how long, how many lines. -/
set_option linter.unusedVariables false
set_option linter.unusedSimpArgs false
namespace Go.Wt
open Go
theorem splitF_nl (c : UInt8) : ∀ (m b : List UInt8), splitF c (m ++ c :: b) = splitF c m ++ splitF c b
  | [], b => by simp [splitF]
  | x :: m, b => by
    have ih := splitF_nl c m b
    simp only [List.cons_append, splitF]
    by_cases hx : x = c
    · rw [if_pos hx, if_pos hx, ih]; rfl
    · rw [if_neg hx, if_neg hx, ih]
      have hne := splitF_ne c m
      match splitF c m, hne with
      | h :: t, _ => rfl
theorem runL_nl (m b : List UInt8) (x : Wrld × List UInt8) : runL (m ++ 10 :: b) x = runL b ((splitF 10 m).foldl linesStep x) := by
  unfold runL
  rw [splitF_nl, List.dropLast_append_of_ne_nil (splitF_ne 10 b), List.foldl_append]
theorem runL_app {a : List UInt8} (h : TextOk a) (b : List UInt8) (x : Wrld × List UInt8) : runL (a ++ b) x = runL b (runL a x) := by
  rcases h with rfl | ⟨m, rfl⟩
  · rfl
  · rw [List.append_assoc]
    show runL (m ++ 10 :: b) x = _
    rw [runL_nl, show m ++ [10] = m ++ 10 :: [] from rfl, runL_nl]
    rfl
theorem runL_wok : ∀ (ls : List (List UInt8)) {x : Wrld × List UInt8}, WOk x.1 → WOk (ls.foldl linesStep x).1
  | [], _, h => h
  | l :: ls, x, h => runL_wok ls (x := linesStep x l) (lineI_wok h _)
theorem tail_split (bad : Int) (w : Wrld) : ∀ (ids : List Int) (a : List UInt8), ids.foldl (tailStep bad w) a = a ++ ids.foldl (tailStep bad w) []
  | [], a => by simp
  | i :: r, a => by
    rw [List.foldl_cons, List.foldl_cons, tail_split bad w r (tailStep bad w a i), tail_split bad w r (tailStep bad w [] i)]
    unfold tailStep
    split
    · simp
    · simp
def tailF (bad : Int) (w : Wrld) : List UInt8 := ([1, 2, 3, 4] : List Int).foldl (tailStep bad w) []
theorem linesF_run {bad : Int} {text : List UInt8} (hb : within bad 0 4 = true) (hl : text.length ≤ 600) : linesF bad text = (runL text (newW bad, [])).2 ++ tailF bad (runL text (newW bad, [])).1 := by
  unfold linesF
  rw [if_pos hb, if_pos hl, tail_split]
  rfl
theorem run_what (x : Wrld × List UInt8) : runL [119, 104, 97, 116, 10] x = (x.1, x.2 ++ whatB) := rfl
theorem run_log (x : Wrld × List UInt8) : runL [108, 111, 103, 10, 108, 111, 103, 10] x = (x.1, x.2 ++ (decI (x.1.log.length : Int) ++ [10]) ++ (decI (x.1.log.length : Int) ++ [10])) := rfl
theorem run_see (x : Wrld × List UInt8) : ∀ d ∈ ([49, 50, 51, 52] : List UInt8), runL ([115, 101, 101, 32] ++ [d] ++ [10, 119, 104, 97, 116, 10]) x = (x.1, x.2 ++ statusF ((d.toNat : Int) - 48) (x.1.nodes.getD ((d.toNat : Int) - 48 - 1).toNat .zero) ++ whatB) := by
  intro d hd
  simp only [List.mem_cons, List.not_mem_nil, or_false] at hd
  rcases hd with rfl | rfl | rfl | rfl <;> rfl
theorem quiet_what {bad : Int} {text : List UInt8} (hb : within bad 0 4 = true) (ht : TextOk text) (hl : text.length ≤ 580) : (linesF bad (text ++ [119, 104, 97, 116, 10])).length = (linesF bad text).length + 5 := by
  rw [linesF_run hb (by rw [List.length_append]; simp only [List.length_cons, List.length_nil]; omega), linesF_run hb (by omega), runL_app ht, run_what]
  simp [whatB]
  omega
theorem quiet_see {bad : Int} {text : List UInt8} (hb : within bad 0 4 = true) (ht : TextOk text) (hl : text.length ≤ 580) (d : UInt8) (hd : d ∈ ([49, 50, 51, 52] : List UInt8)) : (linesF bad text).length + 5 < (linesF bad (text ++ [115, 101, 101, 32] ++ [d] ++ [10, 119, 104, 97, 116, 10])).length := by
  have e : text ++ [115, 101, 101, 32] ++ [d] ++ [10, 119, 104, 97, 116, 10] = text ++ ([115, 101, 101, 32] ++ [d] ++ [10, 119, 104, 97, 116, 10]) := by simp
  rw [e, linesF_run (text := text ++ ([115, 101, 101, 32] ++ [d] ++ [10, 119, 104, 97, 116, 10])) hb (by simp only [List.length_append, List.length_cons, List.length_nil]; omega), linesF_run (text := text) hb (by omega), runL_app ht, run_see _ d hd]
  have hs := status_ne ((d.toNat : Int) - 48) ((runL text (newW bad, [])).1.nodes.getD ((d.toNat : Int) - 48 - 1).toNat .zero)
  generalize statusF ((d.toNat : Int) - 48) ((runL text (newW bad, [])).1.nodes.getD ((d.toNat : Int) - 48 - 1).toNat .zero) = z at hs ⊢
  have := List.length_pos_iff.2 hs
  simp [whatB]
  omega
theorem quiet_log {bad : Int} {text : List UInt8} (hb : within bad 0 4 = true) (ht : TextOk text) (hl : text.length ≤ 580) : ¬ linesF bad (text ++ [108, 111, 103, 10, 108, 111, 103, 10]) = linesF bad text := fun e => by
  have e2 := congrArg List.length e
  rw [linesF_run hb (by rw [List.length_append]; simp only [List.length_cons, List.length_nil]; omega), linesF_run hb (by omega), runL_app ht, run_log] at e2
  simp at e2
  omega
theorem lines_long {bad : Int} {text : List UInt8} (hb : within bad 0 4 = true) (hl : 600 < text.length) : linesF bad text = tooLongB := by
  unfold linesF
  rw [if_pos hb, if_neg (by omega)]
theorem lines_bad {bad : Int} {text : List UInt8} (hb : within bad 0 4 = false) : linesF bad text = noWorldB := by
  unfold linesF
  rw [if_neg (by rw [hb]; decide)]
/-! How many lines -/
def nlF (l : List UInt8) : Nat := l.count 10
theorem nl_app (a b : List UInt8) : nlF (a ++ b) = nlF a + nlF b := List.count_append
theorem nl_status (id : Int) (n : Nod) : 1 ≤ nlF (statusF id n) := by
  unfold statusF
  rw [nl_app]
  show 1 ≤ _ + 1
  omega
theorem nl_tail (bad : Int) (w : Wrld) : ∀ (ids : List Int) (a : List UInt8), nlF a + (ids.filter (fun i => i != bad)).length ≤ nlF (ids.foldl (tailStep bad w) a)
  | [], a => by simp
  | i :: r, a => by
    have ih := nl_tail bad w r (tailStep bad w a i)
    rw [List.foldl_cons]
    unfold tailStep at ih ⊢
    by_cases h : i = bad
    · rw [if_pos h] at ih ⊢
      simp [h]
      simpa using ih
    · rw [if_neg h] at ih ⊢
      rw [nl_app] at ih
      have := nl_status i (w.nodes.getD (i - 1).toNat .zero)
      rw [List.filter_cons_of_pos (by simp [h])]
      simp only [List.length_cons]
      omega
theorem lines_least {bad : Int} {text : List UInt8} (hb : within bad 0 4 = true) (hl : text.length ≤ 600) : (if 0 < bad then 3 else 4) ≤ nlF (linesF bad text) := by
  unfold linesF
  rw [if_pos hb, if_pos hl]
  have h := nl_tail bad (runF bad text).1 [1, 2, 3, 4] (runF bad text).2
  have h2 : (if 0 < bad then 3 else 4) ≤ (([1, 2, 3, 4] : List Int).filter (fun i => i != bad)).length := by
    have hr := in_range hb
    simp only [rangeB, List.mem_cons, List.not_mem_nil, or_false] at hr
    rcases hr with rfl | rfl | rfl | rfl | rfl <;> decide
  omega
theorem lines_one {bad : Int} {text : List UInt8} (h : within bad 0 4 = false ∨ 600 < text.length) : nlF (linesF bad text) = 1 := by
  by_cases hb : within bad 0 4 = true
  · rcases h with h | h
    · rw [hb] at h; cases h
    · rw [lines_long hb h]; rfl
  · rw [lines_bad (by simpa using hb)]; rfl
theorem tail_last (bad : Int) (w : Wrld) : ∀ (ids : List Int) (a : List UInt8), (∃ m, a = m ++ [10]) → ∃ m, ids.foldl (tailStep bad w) a = m ++ [10]
  | [], a, h => h
  | i :: r, a, h => by
    refine tail_last bad w r _ ?_
    unfold tailStep
    split
    · exact h
    · exact ⟨a ++ (bookF (finalOf (w.nodes.getD (i - 1).toNat .zero).seen)).foldl statStep (statHead i (finalOf (w.nodes.getD (i - 1).toNat .zero).seen)), by unfold statusF; rw [List.append_assoc]⟩
theorem step_last (bad : Int) (w : Wrld) (a : List UInt8) (i : Int) (h : ¬ i = bad) : ∃ m, tailStep bad w a i = m ++ [10] := by
  unfold tailStep
  rw [if_neg h]
  exact ⟨a ++ (bookF (finalOf (w.nodes.getD (i - 1).toNat .zero).seen)).foldl statStep (statHead i (finalOf (w.nodes.getD (i - 1).toNat .zero).seen)), by unfold statusF; rw [List.append_assoc]⟩
theorem lines_last {bad : Int} {text : List UInt8} (hb : within bad 0 4 = true) (hl : text.length ≤ 600) : ∃ m, linesF bad text = m ++ [10] := by
  unfold linesF
  rw [if_pos hb, if_pos hl]
  generalize (runF bad text).1 = w
  generalize (runF bad text).2 = a
  by_cases h : bad = 1
  · subst h
    refine tail_last 1 w [3, 4] _ ?_
    exact step_last 1 w _ 2 (by decide)
  · refine tail_last bad w [2, 3, 4] _ ?_
    exact step_last bad w a 1 (fun e => h e.symm)
theorem nl_at {l : List UInt8} {k : Nat} {b : UInt8} (h : l[k]? = some b) : nlF (l.take (k + 1)) = nlF (l.take k) + (if b = 10 then 1 else 0) := by
  rw [take_at h, nl_app]
  unfold nlF
  by_cases hb : b = 10
  · subst hb; rfl
  · rw [if_neg hb, List.count_cons_of_ne hb]; rfl
theorem nl_le (l : List UInt8) (k : Nat) : nlF (l.take k) ≤ l.length := Nat.le_trans (List.count_le_length) (by simp; omega)
theorem runL_len : ∀ (ls : List (List UInt8)) (x : Wrld × List UInt8), WOk x.1 → (ls.foldl linesStep x).2.length ≤ x.2.length + 40 * ls.length
  | [], x, h => by simp
  | l :: ls, x, h => by
    have := runL_len ls (linesStep x l) (lineI_wok h _)
    have h2 := lineI_len h.fx (splitF 32 l)
    rw [List.foldl_cons]
    simp only [linesStep, List.length_append, List.length_cons] at this ⊢
    omega
theorem lines_len (bad : Int) (text : List UInt8) : (linesF bad text).length ≤ 100000 := by
  unfold linesF
  split
  · rename_i hb
    split
    · rename_i hl
      have hw := newW_wok hb
      have h1 := runL_len (splitF 10 text).dropLast (newW bad, []) hw
      have h2 := tail_len (runL_wok (splitF 10 text).dropLast (x := (newW bad, [])) hw).fx bad (runF bad text).2 4 (by omega)
      have h3 := splitF_len 10 text
      have h4 := count_le text 10
      have h5 : (runF bad text).2.length ≤ 40 * (splitF 10 text).length := by
        unfold runF
        simp at h1 ⊢
        omega
      unfold runF at h5 h2 ⊢
      simp only [List.take_succ_cons, List.take_zero] at h2
      omega
    · decide
  · decide
section ops
variable {P : Program} {S : Nat → Prop} {ops : Array Oper} {st : St} {d : Nat} {T pos aft} {x y : Operand}
theorem op_geq8 {t t' : TypeId} {m n : UInt8} (hx : st.ev x = some (.v m)) (hy : st.ev y = some (.v n)) (hn : Nat.blt d st.n = true) :
    OpOk P S ops ⟨some d, .binOp .geq t x y t', T, pos, aft, none⟩ (opT x ++ opT y) [] [(d, some (.v (decide (n.toNat ≤ m.toNat))))] [] st :=
  byte_bin hx hy hn (u := .bool (decide (n.toNat ≤ m.toNat))) (fun w => by
    show Result.ok (Value.bool (decide ((n.toNat : Int) ≤ (m.toNat : Int)))) w = _
    congr 2; simp) fun G w ω => relBool G w ω _
theorem op_leq8 {t t' : TypeId} {m n : UInt8} (hx : st.ev x = some (.v m)) (hy : st.ev y = some (.v n)) (hn : Nat.blt d st.n = true) :
    OpOk P S ops ⟨some d, .binOp .leq t x y t', T, pos, aft, none⟩ (opT x ++ opT y) [] [(d, some (.v (decide (m.toNat ≤ n.toNat))))] [] st :=
  byte_bin hx hy hn (u := .bool (decide (m.toNat ≤ n.toNat))) (fun w => by
    show Result.ok (Value.bool (decide ((m.toNat : Int) ≤ (n.toNat : Int)))) w = _
    congr 2; simp) fun G w ω => relBool G w ω _
end ops
end Go.Wt

/- The script's law of likeness. -/
set_option linter.unusedVariables false
set_option linter.unusedSimpArgs false
namespace Go.Proofs.YtgfoeiieopnlaaaGreatDoor
open Go Go.Wt
theorem ne_self (l : List UInt8) : ¬ (!decide (l = l)) = true := by simp
theorem lit_ct {bad : Int} {text out : List UInt8} (h : linesF bad text = out) : CtP Tryz.prog 15 [.v bad, .v (bs text)] (.v (bs out)) := h ▸ iLinesRun_ct bad text
theorem FnExactLinesRun_ct (bad : Int) (text : List UInt8) : CtP Tryz.prog 6 [.v bad, .v (bs text)] (.v true) := by
  refine Ct.intro Tryz.func6 rfl rfl ?_
  refine aS (aR ?_)
  refine oC (oA rfl (Conv.of rfl) rfl) ?_
  refine oN ?_
  refine aS (aS (aR ?_))
  refine oC (oM rfl (Conv.of rfl) rfl) ?_
  refine oC (op_lens un9 rfl rfl) ?_
  refine oC (op_gtr rfl rfl rfl) ?_
  refine oN ?_
  refine aC rfl (fun h => ?_) (fun h => ?_)
  · refine aS (aR ?_)
    refine oC (oA rfl (Conv.of rfl) rfl) ?_
    refine oN ?_
    refine aT ?_
    repeat first | refine rS ?_ | refine rB ?_
    exact finP (.v rfl (Conv.of rfl)) rfl rfl
  refine aW ?_
  refine aS (aR ?_)
  refine oC (oM rfl (Conv.of rfl) rfl) ?_
  refine oC (oM rfl (Conv.of rfl) rfl) ?_
  refine oC (oL fb16 (.cons rfl (Conv.of rfl) (.cons rfl (Conv.of rfl) (.nil _))) (sLinesRun_ct bad text) (aK rfl rfl (aK rfl rfl aK0)) rfl rfl) ?_
  refine oC (oA rfl (Conv.of rfl) rfl) ?_
  refine oN ?_
  refine aS (aR ?_)
  refine oC (oM rfl (Conv.of rfl) rfl) ?_
  refine oC (oM rfl (Conv.of rfl) rfl) ?_
  refine oC (oL fb15 (.cons rfl (Conv.of rfl) (.cons rfl (Conv.of rfl) (.nil _))) (iLinesRun_ct bad text) (aK rfl rfl (aK rfl rfl aK0)) rfl rfl) ?_
  refine oC (oA rfl (Conv.of rfl) rfl) ?_
  refine oN ?_
  refine aS (aS (aR ?_))
  refine oC (oM rfl (Conv.of rfl) rfl) ?_
  refine oC (oM rfl (Conv.of rfl) rfl) ?_
  refine oC (op_neqs rfl rfl rfl) ?_
  refine oN ?_
  refine aC rfl (fun h => ?_) (fun h => ?_)
  · exact absurd h (ne_self _)
  refine aW ?_
  refine aS (aR ?_)
  refine oC (oA rfl (Conv.of rfl) rfl) ?_
  refine oN ?_
  refine aT ?_
  repeat first | refine rS ?_ | refine rB ?_
  exact finP (.v rfl (Conv.of rfl)) rfl rfl
end Go.Proofs.YtgfoeiieopnlaaaGreatDoor
