/- Part 3 of the proof: texts one behind the other. -/
import Derived.Test.YtgfoeiieopnlaaaGreatDoorM2
import Derived.Laws.Small
/- Rows that are the same, copied, searched. -/
set_option linter.unusedVariables false
namespace Go.Proofs.YtgfoeiieopnlaaaGreatDoor
open Go Go.Wt
theorem equal_ct (a b : List Itm) : CtP Tryz.prog 153 [.v a, .v b] (.v (decide (a = b))) := by
  refine Ct.intro Tryz.func153 rfl rfl ?_
  refine awp_bigL 0 rfl (fun hB => ?_)
  refine aS (aR ?_)
  refine oC (oA rfl (Conv.of rfl) rfl) ?_
  refine oN ?_
  refine aS (aS (aR ?_))
  refine oC (oM rfl (Conv.of rfl) rfl) ?_
  refine oC (oE sl72 rfl rfl) ?_
  refine oC (oM rfl (Conv.of rfl) rfl) ?_
  refine oC (oE sl72 rfl rfl) ?_
  refine oC (op_neq rfl rfl rfl) ?_
  refine oN ?_
  refine aC rfl (fun h => ?_) (fun h => ?_)
  · refine aS (aR ?_)
    refine oC (oA rfl (Conv.of rfl) rfl) ?_
    refine oN ?_
    refine aT ?_
    repeat first | refine rS ?_ | refine rB ?_
    refine finP (.v rfl (Conv.of rfl)) rfl ?_
    show AV.v false = _
    have : a ≠ b := by intro e; subst e; simp at h
    simp [this]
  · refine aW ?_
    have hlen : a.length = b.length := by simp at h; omega
    refine aS (aS (aR ?_))
    refine oC (oM rfl (Conv.of rfl) rfl) ?_
    refine oC (oE sl72 rfl rfl) ?_
    refine oC (oM rfl (Conv.of rfl) rfl) ?_
    refine oN ?_
    refine aB ?_
    refine awp_loop' (fun n s => ∃ (k : Nat), ∃ (hn : n + k = a.length), ∃ (hall : decide (a = b) = decide (a.drop k = b.drop k)), s = mkSt 26 [(0, .v a), (1, .v b), (12, .v (a.length : Int)), (13, .v (k : Int))] []) (a.length) ⟨0, by omega, rfl, rfl⟩ (Le.mk rfl (tle rfl (rfl) rfl (tle rfl (rfl) rfl (tle rfl (rfl) rfl (tle rfl (rfl) rfl tln)))) oln noS) ?_
    rintro n s ⟨k, hn, hall, rfl⟩
    refine aS (aR ?_)
    refine oC (oLt rfl rfl rfl) ?_
    refine oN ?_
    refine aS (aC rfl (fun h => ?_) (fun h => ?_))
    · have hlt : k < a.length := by simpa using h
      have hx : a[k]? = some a[k] := List.getElem?_eq_getElem hlt
      have hy : b[k]? = some (b[k]'(by omega)) := List.getElem?_eq_getElem (by omega)
      have hs := same_drop hx hy
      refine aW ?_
      refine aS (aB ?_)
      refine aS (aR ?_)
      refine oC (oM rfl (Conv.of rfl) rfl) ?_
      refine oC (oA rfl (Conv.of rfl) rfl) ?_
      refine oN ?_
      refine aS (dS ?_)
      refine dC (oM rfl (Conv.of rfl) rfl) ?_
      refine dC (oM rfl (Conv.of rfl) rfl) ?_
      refine dC (op_ix sl72 rfl rfl rfl (by omega) hx) ?_
      refine dC (oDR ty74 rfl rfl) ?_
      refine dC (oM rfl (Conv.of rfl) rfl) ?_
      refine dC (oM rfl (Conv.of rfl) rfl) ?_
      refine dC (op_ix sl72 rfl rfl rfl (by omega) hy) ?_
      refine dC (oDR ty74 rfl rfl) ?_
      refine dC (op_nea weq74 rfl rfl rfl) ?_
      refine dr_nil mixed rfl ?_
      refine aC rfl (fun h => ?_) (fun h => ?_)
      · refine aS (aR ?_)
        refine oC (oA rfl (Conv.of rfl) rfl) ?_
        refine oN ?_
        refine aT ?_
        repeat first | refine rS ?_ | refine rB ?_
        refine finP (.v rfl (Conv.of rfl)) rfl ?_
        show AV.v false = _
        have h' : decide (a[k] = b[k]) = false := by simpa using h
        rw [hall, hs, h', Bool.false_and]
      · refine aW ?_
        refine aR ?_
        refine oC (oP rfl rfl rfl (by omega)) ?_
        refine oC (oM rfl (Conv.of rfl) rfl) ?_
        refine oN ?_
        have h' : decide (a[k] = b[k]) = true := by simpa using h
        repeat first | refine nS ?_ | refine nB ?_
        exact ⟨n - 1, _, by omega, ⟨k + 1, by omega, by rw [hall, hs, h', Bool.true_and], rfl⟩, Le.mk rfl (tle rfl (rfl) rfl (tle rfl (rfl) rfl (tle rfl (rfl) rfl (tle rfl (rfl) rfl tln)))) oln noS⟩
    · refine aE ?_
      repeat refine ex_seq ?_
      refine eB ?_
      have hk : a.length ≤ k := by simpa using h
      refine aS (aR ?_)
      refine oC (oA rfl (Conv.of rfl) rfl) ?_
      refine oN ?_
      refine aT ?_
      repeat first | refine rS ?_ | refine rB ?_
      refine finP (.v rfl (Conv.of rfl)) rfl ?_
      show AV.v true = _
      rw [hall, drop_end hk, drop_end (by omega : b.length ≤ k)]
      simp
theorem cloneI_ct (a : List Itm) (ha : a.length ≤ 1000000) : CtP Tryz.prog 122 [.v a] (.v (OList.mk a true)) := by
  refine Ct.intro Tryz.func122 rfl rfl ?_
  refine aS (aR ?_)
  refine oC (oA rfl (Conv.of rfl) rfl) ?_
  refine oN ?_
  refine aS (aS (aR ?_))
  refine oC (oM rfl (Conv.of rfl) rfl) ?_
  refine awpOps_nil? sl72 rfl rfl (fun b hb => ?_)
  refine oN ?_
  refine aC rfl (fun h => ?_) (fun h => ?_)
  · refine aS (aR ?_)
    refine oC (oA rfl (Conv.of rfl) rfl) ?_
    refine oN ?_
    refine aT ?_
    repeat first | refine rS ?_ | refine rB ?_
    refine ⟨_, _, res1 (ol := []) (r := .v (OList.mk a true)) (.rt rfl ?_) (by intro o ho; cases ho) trivial noS, rfl, rfl⟩
    rw [hb h]; exact Conv.no
  · refine aW ?_
    refine aS (aR ?_)
    refine oC (op_bsl sl72 z74 (.nil _) rfl (by decide) rfl) ?_
    refine oC (oM rfl (Conv.of rfl) rfl) ?_
    refine oC (op_app sl72 z74 ul72 rfl rfl rfl (by (simp; omega)) (by (simp; omega)) rfl rfl) ?_
    refine oC (op_asl rfl rfl rfl rfl) ?_
    refine oN ?_
    refine aT ?_
    repeat first | refine rS ?_ | refine rB ?_
    exact finM rfl rfl (by simp)
theorem clipI_ct (a : OList Itm) : CtP Tryz.prog 121 [.v a.l] (.v (CList.mk a.l)) := by
  refine Ct.intro Tryz.func121 rfl rfl ?_
  refine aS (aR ?_)
  refine oC (oA rfl (Conv.of rfl) rfl) ?_
  refine oN ?_
  refine aS (aR ?_)
  refine oC (oM rfl (Conv.of rfl) rfl) ?_
  refine oC (oM rfl (Conv.of rfl) rfl) ?_
  refine oC (oE sl72 rfl rfl) ?_
  refine oC (oM rfl (Conv.of rfl) rfl) ?_
  refine oC (oE sl72 rfl rfl) ?_
  refine oC (op_slhm sl72 rfl rfl rfl rfl (by simp)) ?_
  refine oC (oA rfl (Conv.of rfl) rfl) ?_
  refine oN ?_
  refine aT ?_
  repeat first | refine rS ?_ | refine rB ?_
  refine finP (.v rfl (Conv.of rfl)) rfl ?_
  show AV.v (CList.mk _) = _
  simp
theorem cloneV_ct (a : List Vote) (ha : a.length ≤ 1000000) : CtP Tryz.prog 144 [.v a] (.v (OList.mk a true)) := by
  refine Ct.intro Tryz.func144 rfl rfl ?_
  refine aS (aR ?_)
  refine oC (oA rfl (Conv.of rfl) rfl) ?_
  refine oN ?_
  refine aS (aS (aR ?_))
  refine oC (oM rfl (Conv.of rfl) rfl) ?_
  refine awpOps_nil? sl36 rfl rfl (fun b hb => ?_)
  refine oN ?_
  refine aC rfl (fun h => ?_) (fun h => ?_)
  · refine aS (aR ?_)
    refine oC (oA rfl (Conv.of rfl) rfl) ?_
    refine oN ?_
    refine aT ?_
    repeat first | refine rS ?_ | refine rB ?_
    refine ⟨_, _, res1 (ol := []) (r := .v (OList.mk a true)) (.rt rfl ?_) (by intro o ho; cases ho) trivial noS, rfl, rfl⟩
    rw [hb h]; exact Conv.no
  · refine aW ?_
    refine aS (aR ?_)
    refine oC (op_bsl sl36 z78 (.nil _) rfl (by decide) rfl) ?_
    refine oC (oM rfl (Conv.of rfl) rfl) ?_
    refine oC (op_app sl36 z78 ul36 rfl rfl rfl (by (simp; omega)) (by (simp; omega)) rfl rfl) ?_
    refine oC (op_asl rfl rfl rfl rfl) ?_
    refine oN ?_
    refine aT ?_
    repeat first | refine rS ?_ | refine rB ?_
    exact finM rfl rfl (by simp)
theorem clipV_ct (a : OList Vote) : CtP Tryz.prog 143 [.v a.l] (.v (CList.mk a.l)) := by
  refine Ct.intro Tryz.func143 rfl rfl ?_
  refine aS (aR ?_)
  refine oC (oA rfl (Conv.of rfl) rfl) ?_
  refine oN ?_
  refine aS (aR ?_)
  refine oC (oM rfl (Conv.of rfl) rfl) ?_
  refine oC (oM rfl (Conv.of rfl) rfl) ?_
  refine oC (oE sl36 rfl rfl) ?_
  refine oC (oM rfl (Conv.of rfl) rfl) ?_
  refine oC (oE sl36 rfl rfl) ?_
  refine oC (op_slhm sl36 rfl rfl rfl rfl (by simp)) ?_
  refine oC (oA rfl (Conv.of rfl) rfl) ?_
  refine oN ?_
  refine aT ?_
  repeat first | refine rS ?_ | refine rB ?_
  refine finP (.v rfl (Conv.of rfl)) rfl ?_
  show AV.v (CList.mk _) = _
  simp
theorem clipC_ct (a : OList (CList Itm)) : CtP Tryz.prog 154 [.v a.l] (.v (CList.mk a.l)) := by
  refine Ct.intro Tryz.func154 rfl rfl ?_
  refine aS (aR ?_)
  refine oC (oA rfl (Conv.of rfl) rfl) ?_
  refine oN ?_
  refine aS (aR ?_)
  refine oC (oM rfl (Conv.of rfl) rfl) ?_
  refine oC (oM rfl (Conv.of rfl) rfl) ?_
  refine oC (oE sl129_CListItm rfl rfl) ?_
  refine oC (oM rfl (Conv.of rfl) rfl) ?_
  refine oC (oE sl129_CListItm rfl rfl) ?_
  refine oC (op_slhm sl129_CListItm rfl rfl rfl rfl (by simp)) ?_
  refine oC (oA rfl (Conv.of rfl) rfl) ?_
  refine oN ?_
  refine aT ?_
  repeat first | refine rS ?_ | refine rB ?_
  refine finP (.v rfl (Conv.of rfl)) rfl ?_
  show AV.v (CList.mk _) = _
  simp
end Go.Proofs.YtgfoeiieopnlaaaGreatDoor

/- Searching with a function; votes. -/
set_option linter.unusedVariables false
namespace Go.Proofs.YtgfoeiieopnlaaaGreatDoor
open Go Go.Wt
theorem indexW_ct (l : List (Vote)) (fn : FuncId) (fa fc : List FV) (hO : Nat → Wt.Obj) (p : Vote → Bool) (hB : fnB Tryz.prog fn = true)
    (hf : ∀ x ∈ l, Ct Tryz.prog fn (avs fa ++ [.v x] ++ avs fc) hO (fun r1 h1 => r1 = .v (p x) ∧ h1 = hO)) (hd : ∀ z ∈ avs fa ++ avs fc, Hand hO z) (hH : ∀ o, obOk (pH hO) (hO o)) :
    Ct Tryz.prog 161 [.v l, .fn fn fa fc] hO (fun r1 h1 => r1 = .v (ixf p l 0) ∧ h1 = hO) := by
  refine Ct.intro Tryz.func161 rfl rfl ?_
  refine awp_bigL 0 rfl (fun hb => ?_)
  refine aS (aR ?_)
  refine oC (oA rfl (Conv.of rfl) rfl) ?_
  refine oN ?_
  refine aS (aS (aR ?_))
  refine oC (oM rfl (Conv.of rfl) rfl) ?_
  refine oC (oE sl85_Vote rfl rfl) ?_
  refine oC (oM rfl (Conv.of rfl) rfl) ?_
  refine oN ?_
  refine aB ?_
  refine awp_loop' (fun n s => ∃ (k : Nat), ∃ (hn : n + k = l.length), ∃ (hall : ixf p l 0 = ixf p (l.drop k) k), s = mkStH 19 [(0, .v l), (1, .fn fn fa fc), (7, .v (l.length : Int)), (8, .v (k : Int))] hO) (l.length) ⟨0, by omega, rfl, rfl⟩ (Le.mkH rfl (tlh rfl (rfl) (tlh rfl (rfl) (tlh rfl (rfl) (tlh rfl (rfl) tln)))) rfl) ?_
  rintro n s ⟨k, hn, hall, rfl⟩
  refine aS (aR ?_)
  refine oC (oLt rfl rfl rfl) ?_
  refine oN ?_
  refine aS (aC rfl (fun h => ?_) (fun h => ?_))
  · have hlt : k < l.length := by simpa using h
    have hx : l[k]? = some l[k] := List.getElem?_eq_getElem hlt
    have hs := ixf_drop (p := p) hx
    refine aW ?_
    refine aS (aB ?_)
    refine aS (aR ?_)
    refine oC (oM rfl (Conv.of rfl) rfl) ?_
    refine oC (oA rfl (Conv.of rfl) rfl) ?_
    refine oN ?_
    refine aS (aR ?_)
    refine oC (oM rfl (Conv.of (Hand.fn hd).1) rfl) ?_
    refine oC (oM rfl (Conv.of rfl) rfl) ?_
    refine oC (oM rfl (Conv.of rfl) rfl) ?_
    refine oC (op_ix sl85_Vote rfl rfl rfl (by omega) hx) ?_
    refine oC (oDR ty78 rfl rfl) ?_
    refine awpOps_callH rfl hB (.cons rfl (Conv.of rfl) (.nil _)) rfl (hf _ (List.getElem_mem hlt)) (Hand.with hd (Hand.l1 (Hand.of rfl rfl) Hand.l0)) hH rfl rfl ?_
    refine oN ?_
    refine aC rfl (fun h => ?_) (fun h => ?_)
    · refine aS (aR ?_)
      refine oC (oM rfl (Conv.of rfl) rfl) ?_
      refine oC (oA rfl (Conv.of rfl) rfl) ?_
      refine oN ?_
      refine aT ?_
      repeat first | refine rS ?_ | refine rB ?_
      refine finH (r := .v (k : Int)) (.v rfl (Conv.of rfl)) ?_ rfl
      show AV.v (k : Int) = _
      rw [hall, hs, h]; rfl
    · refine aW ?_
      refine aR ?_
      refine oC (oP rfl rfl rfl (by omega)) ?_
      refine oC (oM rfl (Conv.of rfl) rfl) ?_
      refine oN ?_
      repeat first | refine nS ?_ | refine nB ?_
      exact ⟨n - 1, _, by omega, ⟨k + 1, by omega, by rw [hall, hs, h]; rfl, rfl⟩, Le.mkH rfl (tlh rfl (rfl) (tlh rfl (rfl) (tlh rfl (rfl) (tlh rfl (rfl) tln)))) rfl⟩
  · refine aE ?_
    repeat refine ex_seq ?_
    refine eB ?_
    have hk : l.length ≤ k := by simpa using h
    refine aS (aR ?_)
    refine oC (oA rfl (Conv.of rfl) rfl) ?_
    refine oN ?_
    refine aT ?_
    repeat first | refine rS ?_ | refine rB ?_
    refine finH (r := .v (-1 : Int)) (.v rfl (Conv.of rfl)) ?_ rfl
    show AV.v (-1 : Int) = _
    rw [hall, drop_end hk]; rfl
theorem containsW_ct (l : List (Vote)) (fn : FuncId) (fa fc : List FV) (hO : Nat → Wt.Obj) (p : Vote → Bool) (hB : fnB Tryz.prog fn = true)
    (hf : ∀ x ∈ l, Ct Tryz.prog fn (avs fa ++ [.v x] ++ avs fc) hO (fun r1 h1 => r1 = .v (p x) ∧ h1 = hO)) (hd : ∀ z ∈ avs fa ++ avs fc, Hand hO z) (hH : ∀ o, obOk (pH hO) (hO o)) :
    Ct Tryz.prog 141 [.v l, .fn fn fa fc] hO (fun r1 h1 => r1 = .v (l.any p) ∧ h1 = hO) := by
  refine Ct.intro Tryz.func141 rfl rfl ?_
  refine aS (aR ?_)
  refine oC (oA rfl (Conv.of rfl) rfl) ?_
  refine oN ?_
  refine aS (aR ?_)
  refine oC (oM rfl (Conv.of rfl) rfl) ?_
  refine oC (oM rfl (Conv.of (Hand.fn hd).1) rfl) ?_
  refine awpOps_callH rfl (fb161) (.cons rfl (Conv.of rfl) (.cons rfl (Conv.of (Hand.fn hd).1) (.nil _))) rfl (indexW_ct l fn fa fc hO p hB hf hd hH) (Hand.none (Hand.l1 (Hand.of rfl rfl) (Hand.l1 (Hand.fn hd) Hand.l0))) hH rfl rfl ?_
  refine oC (op_geq rfl rfl rfl) ?_
  refine oC (oA rfl (Conv.of rfl) rfl) ?_
  refine oN ?_
  refine aT ?_
  repeat first | refine rS ?_ | refine rB ?_
  refine finH (r := .v (decide (0 ≤ ixf p l 0))) (.v rfl (Conv.of rfl)) ?_ rfl
  show AV.v _ = _
  rw [ixf_any p l 0 (Int.le_refl _)]

theorem indexC_ct (l : List (CList Itm)) (fn : FuncId) (fa fc : List FV) (hO : Nat → Wt.Obj) (p : CList Itm → Bool) (hB : fnB Tryz.prog fn = true)
    (hf : ∀ x ∈ l, Ct Tryz.prog fn (avs fa ++ [.v x] ++ avs fc) hO (fun r1 h1 => r1 = .v (p x) ∧ h1 = hO)) (hd : ∀ z ∈ avs fa ++ avs fc, Hand hO z) (hH : ∀ o, obOk (pH hO) (hO o)) :
    Ct Tryz.prog 167 [.v l, .fn fn fa fc] hO (fun r1 h1 => r1 = .v (ixf p l 0) ∧ h1 = hO) := by
  refine Ct.intro Tryz.func167 rfl rfl ?_
  refine awp_bigL 0 rfl (fun hb => ?_)
  refine aS (aR ?_)
  refine oC (oA rfl (Conv.of rfl) rfl) ?_
  refine oN ?_
  refine aS (aS (aR ?_))
  refine oC (oM rfl (Conv.of rfl) rfl) ?_
  refine oC (oE sl129_CListItm rfl rfl) ?_
  refine oC (oM rfl (Conv.of rfl) rfl) ?_
  refine oN ?_
  refine aB ?_
  refine awp_loop' (fun n s => ∃ (k : Nat), ∃ (hn : n + k = l.length), ∃ (hall : ixf p l 0 = ixf p (l.drop k) k), s = mkStH 19 [(0, .v l), (1, .fn fn fa fc), (7, .v (l.length : Int)), (8, .v (k : Int))] hO) (l.length) ⟨0, by omega, rfl, rfl⟩ (Le.mkH rfl (tlh rfl (rfl) (tlh rfl (rfl) (tlh rfl (rfl) (tlh rfl (rfl) tln)))) rfl) ?_
  rintro n s ⟨k, hn, hall, rfl⟩
  refine aS (aR ?_)
  refine oC (oLt rfl rfl rfl) ?_
  refine oN ?_
  refine aS (aC rfl (fun h => ?_) (fun h => ?_))
  · have hlt : k < l.length := by simpa using h
    have hx : l[k]? = some l[k] := List.getElem?_eq_getElem hlt
    have hs := ixf_drop (p := p) hx
    refine aW ?_
    refine aS (aB ?_)
    refine aS (aR ?_)
    refine oC (oM rfl (Conv.of rfl) rfl) ?_
    refine oC (oA rfl (Conv.of rfl) rfl) ?_
    refine oN ?_
    refine aS (aR ?_)
    refine oC (oM rfl (Conv.of (Hand.fn hd).1) rfl) ?_
    refine oC (oM rfl (Conv.of rfl) rfl) ?_
    refine oC (oM rfl (Conv.of rfl) rfl) ?_
    refine oC (op_ix sl129_CListItm rfl rfl rfl (by omega) hx) ?_
    refine oC (oDR ty72_CListItm rfl rfl) ?_
    refine awpOps_callH rfl hB (.cons rfl (Conv.of rfl) (.nil _)) rfl (hf _ (List.getElem_mem hlt)) (Hand.with hd (Hand.l1 (Hand.of rfl rfl) Hand.l0)) hH rfl rfl ?_
    refine oN ?_
    refine aC rfl (fun h => ?_) (fun h => ?_)
    · refine aS (aR ?_)
      refine oC (oM rfl (Conv.of rfl) rfl) ?_
      refine oC (oA rfl (Conv.of rfl) rfl) ?_
      refine oN ?_
      refine aT ?_
      repeat first | refine rS ?_ | refine rB ?_
      refine finH (r := .v (k : Int)) (.v rfl (Conv.of rfl)) ?_ rfl
      show AV.v (k : Int) = _
      rw [hall, hs, h]; rfl
    · refine aW ?_
      refine aR ?_
      refine oC (oP rfl rfl rfl (by omega)) ?_
      refine oC (oM rfl (Conv.of rfl) rfl) ?_
      refine oN ?_
      repeat first | refine nS ?_ | refine nB ?_
      exact ⟨n - 1, _, by omega, ⟨k + 1, by omega, by rw [hall, hs, h]; rfl, rfl⟩, Le.mkH rfl (tlh rfl (rfl) (tlh rfl (rfl) (tlh rfl (rfl) (tlh rfl (rfl) tln)))) rfl⟩
  · refine aE ?_
    repeat refine ex_seq ?_
    refine eB ?_
    have hk : l.length ≤ k := by simpa using h
    refine aS (aR ?_)
    refine oC (oA rfl (Conv.of rfl) rfl) ?_
    refine oN ?_
    refine aT ?_
    repeat first | refine rS ?_ | refine rB ?_
    refine finH (r := .v (-1 : Int)) (.v rfl (Conv.of rfl)) ?_ rfl
    show AV.v (-1 : Int) = _
    rw [hall, drop_end hk]; rfl
theorem containsC_ct (l : List (CList Itm)) (fn : FuncId) (fa fc : List FV) (hO : Nat → Wt.Obj) (p : CList Itm → Bool) (hB : fnB Tryz.prog fn = true)
    (hf : ∀ x ∈ l, Ct Tryz.prog fn (avs fa ++ [.v x] ++ avs fc) hO (fun r1 h1 => r1 = .v (p x) ∧ h1 = hO)) (hd : ∀ z ∈ avs fa ++ avs fc, Hand hO z) (hH : ∀ o, obOk (pH hO) (hO o)) :
    Ct Tryz.prog 151 [.v l, .fn fn fa fc] hO (fun r1 h1 => r1 = .v (l.any p) ∧ h1 = hO) := by
  refine Ct.intro Tryz.func151 rfl rfl ?_
  refine aS (aR ?_)
  refine oC (oA rfl (Conv.of rfl) rfl) ?_
  refine oN ?_
  refine aS (aR ?_)
  refine oC (oM rfl (Conv.of rfl) rfl) ?_
  refine oC (oM rfl (Conv.of (Hand.fn hd).1) rfl) ?_
  refine awpOps_callH rfl (fb167) (.cons rfl (Conv.of rfl) (.cons rfl (Conv.of (Hand.fn hd).1) (.nil _))) rfl (indexC_ct l fn fa fc hO p hB hf hd hH) (Hand.none (Hand.l1 (Hand.of rfl rfl) (Hand.l1 (Hand.fn hd) Hand.l0))) hH rfl rfl ?_
  refine oC (op_geq rfl rfl rfl) ?_
  refine oC (oA rfl (Conv.of rfl) rfl) ?_
  refine oN ?_
  refine aT ?_
  repeat first | refine rS ?_ | refine rB ?_
  refine finH (r := .v (decide (0 ≤ ixf p l 0))) (.v rfl (Conv.of rfl)) ?_ rfl
  show AV.v _ = _
  rw [ixf_any p l 0 (Int.le_refl _)]
theorem same_ct (v u : Vote) : CtP Tryz.prog 142 [.v v, .v u] (.v (decide (v = u))) := by
  refine Ct.intro Tryz.func142 rfl rfl ?_
  all_goals refine aS (aR ?_)
  all_goals refine oC (op_box (o := 0) ty78 rfl (Conv.of rfl) rfl rfl) ?_
  all_goals refine oC (op_box (o := 1) ty78 rfl (Conv.of rfl) rfl rfl) ?_
  all_goals refine oC (oA rfl (Conv.of rfl) rfl) ?_
  all_goals refine oN ?_
  all_goals refine aS (aR ?_)
  all_goals refine oC (oF f78_0 rfl rfl) ?_
  all_goals refine oC (oD ty3 rfl rfl rfl) ?_
  all_goals refine oC (oF f78_0 rfl rfl) ?_
  all_goals refine oC (oD ty3 rfl rfl rfl) ?_
  all_goals refine oC (op_eql rfl rfl rfl) ?_
  all_goals refine oC (oM rfl (Conv.of rfl) rfl) ?_
  all_goals refine g_split (t := 10) rfl (fun h => ?_) (fun h => ?_)
  all_goals first | refine oC (gF rfl rfl rfl rfl rfl) ?_ | refine oC (gN rfl rfl rfl (oF f78_1 rfl rfl)) ?_
  all_goals first | refine oC (gF rfl rfl rfl rfl rfl) ?_ | refine oC (gN rfl rfl rfl (oD ty72 rfl rfl rfl)) ?_
  all_goals first | refine oC (gF rfl rfl rfl rfl rfl) ?_ | refine oC (gN rfl rfl rfl (oF f78_1 rfl rfl)) ?_
  all_goals first | refine oC (gF rfl rfl rfl rfl rfl) ?_ | refine oC (gN rfl rfl rfl (oD ty72 rfl rfl rfl)) ?_
  all_goals first | refine oC (gF rfl rfl rfl rfl rfl) ?_ | refine oC (gN rfl rfl rfl (oL fb153 (.cons rfl (Conv.of rfl) (.cons rfl (Conv.of rfl) (.nil _))) (equal_ct _ _) (aK rfl rfl (aK rfl rfl aK0)) rfl rfl)) ?_
  all_goals refine oC (oQ rfl rfl rfl rfl) ?_
  all_goals refine oC (oA rfl (Conv.of rfl) rfl) ?_
  all_goals refine oN ?_
  all_goals refine aT ?_
  all_goals refine finP (.v rfl (Conv.of rfl)) rfl ?_
  all_goals (obtain ⟨v1, v2⟩ := v; obtain ⟨u1, u2⟩ := u; simp_all [FV.av])
theorem has_ct (l : List Vote) (v : Vote) : CtP Tryz.prog 111 [.v l, .v v] (.v (decide (v ∈ l))) := by
  refine Ct.intro Tryz.func111 rfl rfl ?_
  refine aS (aR ?_)
  refine oC (op_box (o := 0) ty78 rfl (Conv.of rfl) rfl rfl) ?_
  refine oC (oA rfl (Conv.of rfl) rfl) ?_
  refine oN ?_
  have hc := containsW_ct l 142 [.v v] [] noObj (fun x => decide (v = x)) fb142 (fun x hx => same_ct v x) (by intro z hz; simp [avs] at hz; subst hz; exact Hand.of rfl rfl) noH
  refine aS (aR ?_)
  refine oC (oM rfl (Conv.of rfl) rfl) ?_
  refine oC (oD ty78 rfl rfl rfl) ?_
  refine oC (op_mf (f := 142) (.cons (r := .v v) rfl (Conv.of rfl) .nil) .nil rfl) ?_
  refine oC (oL fb141 (.cons rfl (Conv.of rfl) (.cons rfl (Conv.of rfl) (.nil _))) (hc) (aK rfl rfl (aK rfl rfl aK0)) rfl rfl) ?_
  refine oC (oA rfl (Conv.of rfl) rfl) ?_
  refine oN ?_
  refine aT ?_
  repeat first | refine rS ?_ | refine rB ?_
  refine finP (.v rfl (Conv.of rfl)) rfl ?_
  show AV.v _ = _
  congr 1
  rw [Bool.eq_iff_iff]; simp
end Go.Proofs.YtgfoeiieopnlaaaGreatDoor

/- Votes. -/
set_option linter.unusedVariables false
namespace Go.Proofs.YtgfoeiieopnlaaaGreatDoor
open Go Go.Wt
theorem nodeIdOk_ct (n : Int) : CtP Tryz.prog 49 [.v n] (.v (within n 1 4)) := by
  refine Ct.intro Tryz.func49 rfl rfl ?_
  refine aS (aR ?_)
  refine oC (oA rfl (Conv.of rfl) rfl) ?_
  refine oN ?_
  refine aS (aR ?_)
  refine oC (oM rfl (Conv.of rfl) rfl) ?_
  refine oC (oL fb35 (.cons rfl (Conv.of rfl) (.cons rfl (Conv.of rfl) (.cons rfl (Conv.of rfl) (.nil _)))) (within_ct _ _ _) (aK rfl rfl (aK rfl rfl (aK rfl rfl aK0))) rfl rfl) ?_
  refine oC (oA rfl (Conv.of rfl) rfl) ?_
  refine oN ?_
  refine aT ?_
  exact finP (.v rfl (Conv.of rfl)) rfl rfl
theorem voteOk_ct (v : Vote) : CtP Tryz.prog 77 [.v v] (.v (voteOk v)) := by
  refine Ct.intro Tryz.func77 rfl rfl ?_
  all_goals refine aS (aR ?_)
  all_goals refine oC (op_box (o := 0) ty78 rfl (Conv.of rfl) rfl rfl) ?_
  all_goals refine oC (oA rfl (Conv.of rfl) rfl) ?_
  all_goals refine oN ?_
  all_goals refine aS (aR ?_)
  all_goals refine oC (oF f78_0 rfl rfl) ?_
  all_goals refine oC (oD ty3 rfl rfl rfl) ?_
  all_goals refine oC (oL fb49 (.cons rfl (Conv.of rfl) (.nil _)) (nodeIdOk_ct _) (aK rfl rfl aK0) rfl rfl) ?_
  all_goals refine oC (oM rfl (Conv.of rfl) rfl) ?_
  all_goals refine g_split (t := 6) rfl (fun h => ?_) (fun h => ?_)
  all_goals first | refine oC (gF rfl rfl rfl rfl rfl) ?_ | refine oC (gN rfl rfl rfl (oF f78_1 rfl rfl)) ?_
  all_goals first | refine oC (gF rfl rfl rfl rfl rfl) ?_ | refine oC (gN rfl rfl rfl (oD ty72 rfl rfl rfl)) ?_
  all_goals first | refine oC (gF rfl rfl rfl rfl rfl) ?_ | refine oC (gN rfl rfl rfl (oE sl72 rfl rfl)) ?_
  all_goals first | refine oC (gF rfl rfl rfl rfl rfl) ?_ | refine oC (gN rfl rfl rfl (op_gtr rfl rfl rfl)) ?_
  all_goals refine oC (oQ rfl rfl rfl rfl) ?_
  all_goals refine oC (oM rfl (Conv.of rfl) rfl) ?_
  all_goals first | refine g_lit (t := 12) (b := false) rfl ?_ | refine g_split (t := 12) rfl (fun h => ?_) (fun h => ?_)
  all_goals first | refine oC (gF rfl rfl rfl rfl rfl) ?_ | refine oC (gN rfl rfl rfl (oF f78_1 rfl rfl)) ?_
  all_goals first | refine oC (gF rfl rfl rfl rfl rfl) ?_ | refine oC (gN rfl rfl rfl (oD ty72 rfl rfl rfl)) ?_
  all_goals first | refine oC (gF rfl rfl rfl rfl rfl) ?_ | refine oC (gN rfl rfl rfl (oL fb86 (.cons rfl (Conv.of rfl) (.nil _)) (chainOk_ct _) (aK rfl rfl aK0) rfl rfl)) ?_
  all_goals refine oC (oQ rfl rfl rfl rfl) ?_
  all_goals refine oC (oA rfl (Conv.of rfl) rfl) ?_
  all_goals refine oN ?_
  all_goals refine aT ?_
  all_goals refine finP (.v rfl (Conv.of rfl)) rfl ?_
  all_goals (simp_all [FV.av, voteOk])
theorem last_ct (v : Vote) (hv : 0 < v.chain.length) : CtP Tryz.prog 113 [.v v] (.v (lastEp v.chain)) := by
  have hx : v.chain[v.chain.length - 1]? = some (v.chain[v.chain.length - 1]'(by omega)) := List.getElem?_eq_getElem (by omega)
  have hx' : v.chain[((v.chain.length : Int) - 1).toNat]? = some (v.chain[v.chain.length - 1]'(by omega)) := by
    rw [show ((v.chain.length : Int) - 1).toNat = v.chain.length - 1 by omega]; exact hx
  refine Ct.intro Tryz.func113 rfl rfl ?_
  refine aS (aR ?_)
  refine oC (op_box (o := 0) ty78 rfl (Conv.of rfl) rfl rfl) ?_
  refine oC (oA rfl (Conv.of rfl) rfl) ?_
  refine oN ?_
  refine aS (aR ?_)
  refine oC (oF f78_1 rfl rfl) ?_
  refine oC (oD ty72 rfl rfl rfl) ?_
  refine oC (oF f78_1 rfl rfl) ?_
  refine oC (oD ty72 rfl rfl rfl) ?_
  refine oC (oE sl72 rfl rfl) ?_
  refine awpOps_bigL 4 rfl (fun hb => ?_)
  refine oC (op_sub rfl rfl rfl (by omega)) ?_
  refine oC (op_ix sl72 rfl rfl rfl (by omega) hx') ?_
  refine oC (oFR f74_0 rfl rfl) ?_
  refine oC (oDR ty3 rfl rfl) ?_
  refine oC (oA rfl (Conv.of rfl) rfl) ?_
  refine oN ?_
  refine aT ?_
  repeat first | refine rS ?_ | refine rB ?_
  refine finP (.v rfl (Conv.of rfl)) rfl ?_
  show AV.v _ = _
  rw [lastEp_get hx]
theorem leader_ct (n : Int) : CtP Tryz.prog 78 [.v n] (.v (leader n)) := by
  refine Ct.intro Tryz.func78 rfl rfl ?_
  refine aS (aR ?_)
  refine oC (oA rfl (Conv.of rfl) rfl) ?_
  refine oN ?_
  refine aS (aS (aR ?_))
  refine oC (oM rfl (Conv.of rfl) rfl) ?_
  refine oC (oL fb115 (.cons rfl (Conv.of rfl) (.nil _)) (epochOk_ct _) (aK rfl rfl aK0) rfl rfl) ?_
  refine oC (op_not rfl rfl) ?_
  refine oN ?_
  refine aC rfl (fun h => ?_) (fun h => ?_)
  · refine aS (aR ?_)
    refine oC (oA rfl (Conv.of rfl) rfl) ?_
    refine oN ?_
    refine aT ?_
    repeat first | refine rS ?_ | refine rB ?_
    refine finP (.v rfl (Conv.of rfl)) rfl ?_
    show AV.v (0 : Int) = _
    have : within n 1 30 = false := by simpa using h
    simp [leader, this]
  · refine aW ?_
    have hw : within n 1 30 = true := by simpa using h
    have hw' : 1 ≤ n ∧ n ≤ 30 := by simpa [within] using hw
    have ht1 := Int.tmod_nonneg 4 (show 0 ≤ n - 1 by omega)
    have ht2 := Int.tmod_lt_of_pos (n - 1) (show (0 : Int) < 4 by omega)
    refine aS (aR ?_)
    refine oC (oM rfl (Conv.of rfl) rfl) ?_
    refine oC (op_sub rfl rfl rfl (by omega)) ?_
    refine oC (op_rem rfl rfl rfl (by decide)) ?_
    refine oC (oP rfl rfl rfl (by omega)) ?_
    refine oC (oA rfl (Conv.of rfl) rfl) ?_
    refine oN ?_
    refine aT ?_
    repeat first | refine rS ?_ | refine rB ?_
    refine finP (.v rfl (Conv.of rfl)) rfl ?_
    show AV.v _ = _
    simp [leader, hw]
theorem copied_ct (c : List Itm) (hc : c.length ≤ 1000000) : CtP Tryz.prog 84 [.v c] (.v (CList.mk c)) := by
  refine Ct.intro Tryz.func84 rfl rfl ?_
  refine aS (aR ?_)
  refine oC (oA rfl (Conv.of rfl) rfl) ?_
  refine oN ?_
  refine aS (aR ?_)
  refine oC (oM rfl (Conv.of rfl) rfl) ?_
  refine oC (oL fb122 (.cons rfl (Conv.of rfl) (.nil _)) (cloneI_ct _ hc) (aK rfl rfl aK0) rfl rfl) ?_
  refine oC (oL fb121 (.cons rfl ((Conv.ol)) (.nil _)) (clipI_ct ⟨c, true⟩) (aK rfl rfl aK0) rfl rfl) ?_
  refine oC (oA rfl (Conv.of rfl) rfl) ?_
  refine oN ?_
  refine aT ?_
  repeat first | refine rS ?_ | refine rB ?_
  exact finP (.v rfl (Conv.of rfl)) rfl rfl
end Go.Proofs.YtgfoeiieopnlaaaGreatDoor

/- Votes copied, counted; sure chains. -/
set_option linter.unusedVariables false
namespace Go.Proofs.YtgfoeiieopnlaaaGreatDoor
open Go Go.Wt
theorem voteCopied_ct (v : Vote) (hv : v.chain.length ≤ 1000000) : CtP Tryz.prog 140 [.v v] (.v v) := by
  refine Ct.intro Tryz.func140 rfl rfl ?_
  refine aS (aR ?_)
  refine oC (op_box (o := 0) ty78 rfl (Conv.of rfl) rfl rfl) ?_
  refine oC (oX (o := 1) z78 rfl rfl) ?_
  refine oN ?_
  refine aS (dS ?_)
  refine dC (oF f78_0 rfl rfl) ?_
  refine dC (oD ty3 rfl rfl rfl) ?_
  refine dC (oF f78_1 rfl rfl) ?_
  refine dC (oD ty72 rfl rfl rfl) ?_
  refine dC (oL fb84 (.cons rfl (Conv.of rfl) (.nil _)) (copied_ct _ hv) (aK rfl rfl aK0) rfl rfl) ?_
  refine dC (op_build (.cons f78_0 rfl (Conv.of rfl) (.cons f78_1 rfl Conv.cl (.nil _))) z78 rfl pl78 rfl) ?_
  refine dC (op_st ty78 rfl rfl (Conv.of rfl) rfl) ?_
  refine dr_nil mixed rfl ?_
  refine aT ?_
  repeat first | refine rS ?_ | refine rB ?_
  exact finP (.rc ty78 rfl rfl) rfl rfl
theorem with_ct (l : List Vote) (v : Vote) (hl : l.length ≤ 1000000) (hv : v.chain.length ≤ 1000000) : CtP Tryz.prog 112 [.v l, .v v] (.v (CList.mk (l ++ [v]))) := by
  refine Ct.intro Tryz.func112 rfl rfl ?_
  refine aS (aR ?_)
  refine oC (op_box (o := 0) ty78 rfl (Conv.of rfl) rfl rfl) ?_
  refine oC (oA rfl (Conv.of rfl) rfl) ?_
  refine oN ?_
  refine aS (dS ?_)
  refine dC (oM rfl (Conv.of rfl) rfl) ?_
  refine dC (oL fb144 (.cons rfl (Conv.of rfl) (.nil _)) (cloneV_ct _ hl) (aK rfl rfl aK0) rfl rfl) ?_
  refine dC (oD ty78 rfl rfl rfl) ?_
  refine dC (oL fb140 (.cons rfl (Conv.of rfl) (.nil _)) (voteCopied_ct _ hv) (aK rfl rfl aK0) rfl rfl) ?_
  refine dC (op_bsl sl36 z78 (.cons rfl (Conv.of rfl) (.nil _)) rfl (by decide) rfl) ?_
  refine dC (op_app sl36 z78 ul36 rfl rfl rfl (by (simp; omega)) (by (simp; omega)) rfl rfl) ?_
  refine dC (oL fb143 (.cons rfl ((Conv.ol)) (.nil _)) (clipV_ct ⟨l ++ [v], true⟩) (aK rfl rfl aK0) rfl rfl) ?_
  refine dC (oA rfl (Conv.of rfl) rfl) ?_
  refine dr_nil mixed rfl ?_
  refine aT ?_
  repeat first | refine rS ?_ | refine rB ?_
  exact finP (.v rfl (Conv.of rfl)) rfl rfl
theorem voters_ct (l : List Vote) (c : List Itm) : CtP Tryz.prog 145 [.v l, .v c] (.v (CList.mk (voters l c))) := by
  refine Ct.intro Tryz.func145 rfl rfl ?_
  refine aS (aR ?_)
  refine oC (oA rfl (Conv.of rfl) rfl) ?_
  refine oN ?_
  refine aS (aR ?_)
  refine oC (op_mkl sl87 z3 rfl rfl (by omega) (by omega) (by omega) rfl) ?_
  refine oC (op_asl rfl rfl rfl rfl) ?_
  refine oN ?_
  refine aS (aS (aR ?_))
  refine oC (oA rfl (Conv.of rfl) rfl) ?_
  refine oN ?_
  refine aB ?_
  refine awp_loop' (fun n s => ∃ (k : Nat), ∃ (hn : n + k = 4), s = mkSt 27 [(0, .v l), (1, .v c), (5, .v (OList.mk ((([1, 2, 3, 4] : List Int).take k).filter fun n => decide (Vote.mk n c ∈ l)) true)), (6, .v ((k : Int) + 1))] []) (4) ⟨0, by omega, rfl⟩ (Le.mk rfl (tle rfl (rfl) rfl (tle rfl (rfl) rfl (tle rfl (by rfl) rfl (tle rfl (rfl) rfl tln)))) oln noS) ?_
  rintro n s ⟨k, hn, rfl⟩
  have hlen : ((([1, 2, 3, 4] : List Int).take k).filter fun n => decide (Vote.mk n c ∈ l)).length ≤ 4 := Nat.le_trans (List.length_filter_le _ _) (by simp; omega)
  refine aS (aS (aR ?_))
  refine oC (oM rfl (Conv.of rfl) rfl) ?_
  refine oC (op_leq rfl rfl rfl) ?_
  refine oN ?_
  refine aC rfl (fun h => ?_) (fun h => ?_)
  · have hk : k < 4 := by simp at h; omega
    refine aW ?_
    refine aS (aB ?_)
    refine aS (aR ?_)
    refine oC (oM rfl (Conv.of rfl) rfl) ?_
    refine oC (oM rfl (Conv.of rfl) rfl) ?_
    refine oC (oM rfl (Conv.of rfl) rfl) ?_
    refine oC (op_build (.cons f78_0 rfl (Conv.of rfl) (.cons f78_1 rfl (Conv.of rfl) (.nil _))) z78 rfl pl78 rfl) ?_
    refine oC (oL fb111 (.cons rfl (Conv.of rfl) (.cons rfl (Conv.of rfl) (.nil _))) (has_ct _ _) (aK rfl rfl (aK rfl rfl aK0)) rfl rfl) ?_
    refine oN ?_
    refine aC rfl (fun hb => ?_) (fun hb => ?_)
    · refine aR ?_
      refine oC (op_mvl rfl rfl rfl rfl) ?_
      refine oC (oM rfl (Conv.of rfl) rfl) ?_
      refine oC (op_bsl sl87 z3 (.cons rfl (Conv.of rfl) (.nil _)) rfl (by decide) rfl) ?_
      refine oC (op_app sl87 z3 ul87 rfl rfl rfl (by (simp only [List.length_singleton]; omega)) (by (simp only [List.length_singleton]; omega)) rfl rfl) ?_
      refine oC (op_asl rfl rfl rfl rfl) ?_
      refine oN ?_
      refine aR ?_
      refine oC (oM rfl (Conv.of rfl) rfl) ?_
      refine oC (oP rfl rfl rfl (by omega)) ?_
      refine oC (oA rfl (Conv.of rfl) rfl) ?_
      refine oN ?_
      repeat first | refine nS ?_ | refine nB ?_
      exact ⟨n - 1, _, by omega, ⟨k + 1, by omega, rfl⟩, Le.mk rfl (tle rfl (rfl) rfl (tle rfl (rfl) rfl (tle rfl (by (rw [voters_step k hk, hb]; simp)) rfl (tle rfl (rfl) rfl tln)))) oln noS⟩
    · refine aW ?_
      refine aR ?_
      refine oC (oM rfl (Conv.of rfl) rfl) ?_
      refine oC (oP rfl rfl rfl (by omega)) ?_
      refine oC (oA rfl (Conv.of rfl) rfl) ?_
      refine oN ?_
      repeat first | refine nS ?_ | refine nB ?_
      exact ⟨n - 1, _, by omega, ⟨k + 1, by omega, rfl⟩, Le.mk rfl (tle rfl (rfl) rfl (tle rfl (rfl) rfl (tle rfl (by (rw [voters_step k hk, hb]; simp)) rfl (tle rfl (rfl) rfl tln)))) oln noS⟩
  · refine aE ?_
    repeat refine ex_seq ?_
    refine eB ?_
    have hk : k = 4 := by simp at h; omega
    subst hk
    refine aS (aR ?_)
    refine oC (op_mvl rfl rfl rfl rfl) ?_
    refine oC (oM rfl (Conv.of rfl) rfl) ?_
    refine oC (oE sl87 rfl rfl) ?_
    refine oC (oM rfl (Conv.of rfl) rfl) ?_
    refine oC (oE sl87 rfl rfl) ?_
    refine oC (op_slhm sl87 rfl rfl rfl rfl (by simp)) ?_
    refine oC (oA rfl (Conv.of rfl) rfl) ?_
    refine oN ?_
    refine aT ?_
    repeat first | refine rS ?_ | refine rB ?_
    refine finP (.v rfl (Conv.of rfl)) rfl ?_
    show AV.v (CList.mk _) = _
    simp only [Int.toNat_natCast, List.take_length]; rfl
theorem sure_ct (l : List Vote) (c : List Itm) : CtP Tryz.prog 114 [.v l, .v c] (.v (sure l c)) := by
  refine Ct.intro Tryz.func114 rfl rfl ?_
  refine awp_bigL 1 rfl (fun hB => ?_)
  refine aS (aR ?_)
  refine oC (oA rfl (Conv.of rfl) rfl) ?_
  refine oN ?_
  refine aS (aS (aR ?_))
  refine oC (oA rfl (Conv.of rfl) rfl) ?_
  refine oN ?_
  refine aB ?_
  refine awp_loop' (fun n s => ∃ (k : Nat), ∃ (hn : n + k = c.length), ∃ (hall : sure l c = sureFrom l c k n), s = mkSt 19 [(0, .v l), (1, .v c), (5, .v ((k : Int) + 1))] []) (c.length) ⟨0, by omega, rfl, rfl⟩ (Le.mk rfl (tle rfl (rfl) rfl (tle rfl (rfl) rfl (tle rfl (rfl) rfl tln))) oln noS) ?_
  rintro n s ⟨k, hn, hall, rfl⟩
  refine aS (aS (aR ?_))
  refine oC (oM rfl (Conv.of rfl) rfl) ?_
  refine oC (oM rfl (Conv.of rfl) rfl) ?_
  refine oC (oE sl72 rfl rfl) ?_
  refine oC (op_leq rfl rfl rfl) ?_
  refine oN ?_
  refine aC rfl (fun h => ?_) (fun h => ?_)
  · have hlt : k < c.length := by simp at h; omega
    obtain ⟨n', rfl⟩ : ∃ n', n = n' + 1 := ⟨n - 1, by omega⟩
    refine aW ?_
    refine aS (aB ?_)
    refine aS (aR ?_)
    refine oC (oM rfl (Conv.of rfl) rfl) ?_
    refine oC (oM rfl (Conv.of rfl) rfl) ?_
    refine oC (oM rfl (Conv.of rfl) rfl) ?_
    refine oC (op_slh sl72 rfl rfl rfl (by omega)) ?_
    refine oC (oL fb145 (.cons rfl (Conv.of rfl) (.cons rfl (Conv.of rfl) (.nil _))) (voters_ct _ _) (aK rfl rfl (aK rfl rfl aK0)) rfl rfl) ?_
    refine oC (oE sl87 rfl rfl) ?_
    refine oC (oLt rfl rfl rfl) ?_
    refine oN ?_
    refine aC rfl (fun hb => ?_) (fun hb => ?_)
    · refine aS (aR ?_)
      refine oC (oA rfl (Conv.of rfl) rfl) ?_
      refine oN ?_
      refine aT ?_
      repeat first | refine rS ?_ | refine rB ?_
      refine finP (.v rfl (Conv.of rfl)) rfl ?_
      show AV.v false = _
      have hb' : ((voters l (c.take ((k : Int) + 1).toNat)).length : Int) < 3 := by simpa using hb
      rw [hall, sure_step, decide_eq_false (by rw [show ((k : Int) + 1).toNat = k + 1 by omega] at hb'; omega), Bool.false_and]
    · refine aW ?_
      refine aR ?_
      refine oC (oM rfl (Conv.of rfl) rfl) ?_
      refine oC (oP rfl rfl rfl (by omega)) ?_
      refine oC (oA rfl (Conv.of rfl) rfl) ?_
      refine oN ?_
      have hb' : 3 ≤ ((voters l (c.take ((k : Int) + 1).toNat)).length : Int) := by simpa using hb
      repeat first | refine nS ?_ | refine nB ?_
      exact ⟨n', _, by omega, ⟨k + 1, by omega, by rw [hall, sure_step, decide_eq_true (by rw [show ((k : Int) + 1).toNat = k + 1 by omega] at hb'; omega), Bool.true_and], rfl⟩, Le.mk rfl (tle rfl (rfl) rfl (tle rfl (rfl) rfl (tle rfl (rfl) rfl tln))) oln noS⟩
  · refine aE ?_
    repeat refine ex_seq ?_
    refine eB ?_
    have hk : n = 0 := by simp at h; omega
    subst hk
    refine aS (aR ?_)
    refine oC (oA rfl (Conv.of rfl) rfl) ?_
    refine oN ?_
    refine aT ?_
    repeat first | refine rS ?_ | refine rB ?_
    refine finP (.v rfl (Conv.of rfl)) rfl ?_
    show AV.v true = _
    rw [hall]; rfl
end Go.Proofs.YtgfoeiieopnlaaaGreatDoor

/- Sure chains, the longest, the final part. -/
set_option linter.unusedVariables false
set_option linter.unusedSimpArgs false
namespace Go.Proofs.YtgfoeiieopnlaaaGreatDoor
open Go Go.Wt
theorem allFn_ct (x : CList Itm) (hO : Nat → Wt.Obj) (o : Nat) (v : Vote) (ho : hO o = .cell v) : Ct Tryz.prog 152 [.v x, .box o (IsLens.whole Vote)] hO (fun r1 h1 => r1 = .v (decide (x.l = v.chain)) ∧ h1 = hO) := by
  refine Ct.intro Tryz.func152 rfl rfl ?_
  refine aS (aR ?_)
  refine oC (oA rfl (Conv.of rfl) rfl) ?_
  refine oN ?_
  refine aS (aR ?_)
  refine oC (oM rfl (Conv.of rfl) rfl) ?_
  refine oC (oF f78_1 rfl rfl) ?_
  refine oC (oD ty72 rfl ho rfl) ?_
  refine oC (oL fb153 (.cons rfl (Conv.cl) (.cons rfl (Conv.of rfl) (.nil _))) (equal_ct _ _) (aK rfl rfl (aK rfl rfl aK0)) rfl rfl) ?_
  refine oC (oA rfl (Conv.of rfl) rfl) ?_
  refine oN ?_
  refine aT ?_
  repeat first | refine rS ?_ | refine rB ?_
  exact finH (r := .v _) (.v rfl (Conv.of rfl)) rfl rfl
theorem map_any (l : List (List Itm)) (c : List Itm) : ((l.map CList.mk).any fun x => decide (x.l = c)) = decide (c ∈ l) := by
  rw [Bool.eq_iff_iff]; simp
set_option maxHeartbeats 1000000 in
theorem all_ct (l : List Vote) (hl : l.length ≤ 100000) (hv : ∀ v ∈ l, v.chain.length ≤ 1000000) : CtP Tryz.prog 120 [.v l] (.v (CList.mk ((allOf l).map CList.mk))) := by
  refine Ct.intro Tryz.func120 rfl rfl ?_
  all_goals refine aS (aR ?_)
  all_goals refine oC (oA rfl (Conv.of rfl) rfl) ?_
  all_goals refine oN ?_
  all_goals refine aS (aR ?_)
  all_goals refine oC (op_bsc sl72 z74 (.nil _) rfl (by decide) rfl) ?_
  all_goals refine oC (op_bsl sl129_CListItm z72_CListItm (.cons rfl (Conv.of rfl) (.nil _)) rfl (by decide) rfl) ?_
  all_goals refine oC (op_asl rfl rfl rfl rfl) ?_
  all_goals refine oN ?_
  all_goals refine aS (aS (aR ?_))
  all_goals refine oC (oM rfl (Conv.of rfl) rfl) ?_
  all_goals refine oC (oE sl85 rfl rfl) ?_
  all_goals refine oC (oM rfl (Conv.of rfl) rfl) ?_
  all_goals refine oN ?_
  refine aB ?_
  refine awp_loop' (fun n s => ∃ (k : Nat), ∃ (hn : n + k = l.length), s = mkSt 35 [(0, .v l), (3, .v (OList.mk (((l.take k).foldl (allStep l) [[]]).map CList.mk) true)), (9, .v l), (10, .v (l.length : Int)), (11, .v (k : Int))] []) (l.length) ⟨0, by omega, rfl⟩ (Le.mk rfl (tle rfl (rfl) rfl (tle rfl (by rfl) rfl (tle rfl (rfl) rfl (tle rfl (rfl) rfl (tle rfl (rfl) rfl tln))))) oln noS) ?_
  rintro n s ⟨k, hn, rfl⟩
  have hout := allStep_len l (l.take k) [[]]
  have hout' : ((l.take k).foldl (allStep l) [[]]).length ≤ 100001 := by simp at hout; omega
  all_goals refine aS (aR ?_)
  all_goals refine oC (oLt rfl rfl rfl) ?_
  all_goals refine oN ?_
  refine aS (aC rfl (fun h => ?_) (fun h => ?_))
  · have hlt : k < l.length := by simpa using h
    have hx : l[k]? = some l[k] := List.getElem?_eq_getElem hlt
    refine aW ?_
    refine aS (aB ?_)
    all_goals refine aS (aR ?_)
    all_goals refine oC (op_ix sl85 rfl rfl rfl (by omega) hx) ?_
    all_goals refine oC (oDR ty78 rfl rfl) ?_
    all_goals refine oC (oX (o := 0) z78 rfl rfl) ?_
    all_goals refine oC (op_st ty78 rfl rfl (Conv.of rfl) rfl) ?_
    all_goals refine oN ?_
    all_goals refine aS (aR ?_)
    all_goals refine oC (oM rfl Conv.ol rfl) ?_
    all_goals refine oC (op_mf (f := 152) .nil (.cons (r := .box 0 (IsLens.whole Vote)) rfl (Conv.of rfl) .nil) rfl) ?_
    all_goals refine awpOps_callH rfl (fb151) (.cons rfl (Conv.of rfl) (.cons rfl (Conv.of rfl) (.nil _))) rfl (containsC_ct _ _ [] [.box 0 (IsLens.whole Vote)] _ (fun x => decide (x.l = l[k].chain)) (fb152) (fun x hx => allFn_ct x _ 0 l[k] rfl) (by intro z hz; simp [avs, FV.av] at hz; subst hz; exact ⟨rfl, fun o ho => by simp [AV.refs] at ho; subst ho; rfl⟩) (fun o => by by_cases e : o = 0 <;> simp [mkSt, st0, St.upd, lk, lk0, orr, e, obOk, noObj] <;> exact plain_refs _)) (Hand.none (Hand.l1 (Hand.of rfl rfl) (Hand.l1 ⟨rfl, fun o ho => by simp [AV.refs, FV.refs] at ho; subst ho; rfl⟩ Hand.l0))) (fun o => by by_cases e : o = 0 <;> simp [mkSt, st0, St.upd, lk, lk0, orr, e, obOk, noObj] <;> exact plain_refs _) rfl rfl ?_
    all_goals refine oC (oA rfl (Conv.of rfl) rfl) ?_
    all_goals refine oN ?_
    rw [map_any]
    refine aST (s' := mkSt 35 [(0, .v l), (3, .v (OList.mk (((l.take k).foldl (allStep l) [[]]).map CList.mk) true)), (5, .box 0 (IsLens.whole Vote)), (9, .v l), (10, .v (l.length : Int)), (11, .v (k : Int)), (25, .v (!decide (l[k].chain ∈ (l.take k).foldl (allStep l) [[]]) && sure l l[k].chain))] [(0, .cell l[k])]) ?_ ?_
    · all_goals refine aR ?_
      all_goals refine oC (oM rfl (Conv.of rfl) rfl) ?_
      all_goals refine oC (op_not rfl rfl) ?_
      all_goals refine oC (oM rfl (Conv.of rfl) rfl) ?_
      all_goals refine g_split (t := 20) rfl (fun h => ?_) (fun h => ?_)
      all_goals first | refine oC (gF rfl rfl rfl rfl rfl) ?_ | refine oC (gN rfl rfl rfl (oM rfl (Conv.of rfl) rfl)) ?_
      all_goals first | refine oC (gF rfl rfl rfl rfl rfl) ?_ | refine oC (gN rfl rfl rfl (oF f78_1 rfl rfl)) ?_
      all_goals first | refine oC (gF rfl rfl rfl rfl rfl) ?_ | refine oC (gN rfl rfl rfl (oD ty72 rfl rfl rfl)) ?_
      all_goals first | refine oC (gF rfl rfl rfl rfl rfl) ?_ | refine oC (gN rfl rfl rfl (oL fb114 (.cons rfl (Conv.of rfl) (.cons rfl (Conv.of rfl) (.nil _))) (sure_ct _ _) (aK rfl rfl (aK rfl rfl aK0)) rfl rfl)) ?_
      all_goals refine oC (oQ rfl rfl rfl rfl) ?_
      all_goals refine oN ?_
      all_goals exact Le.mk rfl (tle rfl (rfl) rfl (tle rfl (rfl) rfl (tlb rfl rfl rfl (tle rfl (rfl) rfl (tle rfl (rfl) rfl (tle rfl (rfl) rfl (tle rfl (by simp_all) rfl tln))))))) (olk rfl (by exact bC) oln) noS
    refine aC rfl (fun hb => ?_) (fun hb => ?_)
    · all_goals refine aR ?_
      all_goals refine oC (op_mvl rfl rfl rfl rfl) ?_
      all_goals refine oC (oF f78_1 rfl rfl) ?_
      all_goals refine oC (oD ty72 rfl rfl rfl) ?_
      all_goals refine oC (oL fb84 (.cons rfl (Conv.of rfl) (.nil _)) (copied_ct _ (hv _ (List.getElem_mem hlt))) (aK rfl rfl aK0) rfl rfl) ?_
      all_goals refine oC (op_bsl sl129_CListItm z72_CListItm (.cons rfl (Conv.of rfl) (.nil _)) rfl (by decide) rfl) ?_
      all_goals refine oC (op_app sl129_CListItm z72_CListItm ul129 rfl rfl rfl (by (simp; omega)) (by (simp; omega)) rfl rfl) ?_
      all_goals refine oC (op_asl rfl rfl rfl rfl) ?_
      all_goals refine oN ?_
      all_goals refine aR ?_
      all_goals refine oC (oP rfl rfl rfl (by omega)) ?_
      all_goals refine oC (oM rfl (Conv.of rfl) rfl) ?_
      all_goals refine oN ?_
      repeat first | refine nS ?_ | refine nB ?_
      exact ⟨n - 1, _, by omega, ⟨k + 1, by omega, rfl⟩, Le.mk rfl (tle rfl (rfl) rfl (tle rfl (by (rw [foldl_at _ _ hx]; simp [allStep, *])) rfl (tle rfl (rfl) rfl (tle rfl (rfl) rfl (tle rfl (rfl) rfl tln))))) oln noS⟩
    · refine aW ?_
      all_goals refine aR ?_
      all_goals refine oC (oP rfl rfl rfl (by omega)) ?_
      all_goals refine oC (oM rfl (Conv.of rfl) rfl) ?_
      all_goals refine oN ?_
      repeat first | refine nS ?_ | refine nB ?_
      exact ⟨n - 1, _, by omega, ⟨k + 1, by omega, rfl⟩, Le.mk rfl (tle rfl (rfl) rfl (tle rfl (by (rw [foldl_at _ _ hx]; simp [allStep, *])) rfl (tle rfl (rfl) rfl (tle rfl (rfl) rfl (tle rfl (rfl) rfl tln))))) oln noS⟩
  · refine aE ?_
    repeat refine ex_seq ?_
    refine eB ?_
    have hk : l.length ≤ k := by simpa using h
    all_goals refine aS (aR ?_)
    all_goals refine oC (op_mvl rfl rfl rfl rfl) ?_
    all_goals refine oC (oL fb154 (.cons rfl (Conv.ol) (.nil _)) (clipC_ct ⟨((l.take k).foldl (allStep l) [[]]).map CList.mk, true⟩) (aK rfl rfl aK0) rfl rfl) ?_
    all_goals refine oC (oA rfl (Conv.of rfl) rfl) ?_
    all_goals refine oN ?_
    refine aT ?_
    repeat first | refine rS ?_ | refine rB ?_
    refine finP (.v rfl (Conv.of rfl)) rfl ?_
    simp only [take_end hk]; rfl
theorem allOf_len {l : List Vote} (hl : l.length ≤ 100000) : (allOf l).length ≤ 100001 := by
  have := allStep_len l l [[]]
  simp at this; unfold allOf; omega
theorem tip_ct (l : List Vote) (hl : l.length ≤ 100000) (hv : ∀ v ∈ l, v.chain.length ≤ 1000000) : CtP Tryz.prog 108 [.v l] (.v (CList.mk (tipOf l))) := by
  have hall := allOf_len hl
  refine Ct.intro Tryz.func108 rfl rfl ?_
  refine aS (aR ?_)
  refine oC (oA rfl (Conv.of rfl) rfl) ?_
  refine oN ?_
  refine aS (aR ?_)
  refine oC (op_bsc sl72 z74 (.nil _) rfl (by decide) rfl) ?_
  refine oC (oA rfl (Conv.of rfl) rfl) ?_
  refine oN ?_
  refine aS (aS (aR ?_))
  refine oC (oM rfl (Conv.of rfl) rfl) ?_
  refine oC (oL fb120 (.cons rfl (Conv.of rfl) (.nil _)) (all_ct l hl hv) (aK rfl rfl aK0) rfl rfl) ?_
  refine oC (oE sl129_CListItm rfl rfl) ?_
  refine oC (oM rfl (Conv.of rfl) rfl) ?_
  refine oN ?_
  refine aB ?_
  refine awp_loop' (fun n s => ∃ (k : Nat), ∃ (hn : n + k = (allOf l).length), s = mkSt 22 [(3, .v (CList.mk (((allOf l).take k).foldl tipStep []))), (8, .v (CList.mk ((allOf l).map CList.mk))), (9, .v ((allOf l).length : Int)), (10, .v (k : Int))] []) ((allOf l).length) ⟨0, by omega, rfl⟩ (Le.mk rfl (tle rfl (by rfl) rfl (tle rfl (rfl) rfl (tle rfl (by simp) rfl (tle rfl (rfl) rfl tln)))) oln noS) ?_
  rintro n s ⟨k, hn, rfl⟩
  refine aS (aR ?_)
  refine oC (oLt rfl rfl rfl) ?_
  refine oN ?_
  refine aS (aC rfl (fun h => ?_) (fun h => ?_))
  · have hlt : k < (allOf l).length := by simpa using h
    have hx : (allOf l)[k]? = some (allOf l)[k] := List.getElem?_eq_getElem hlt
    have hx' : ((allOf l).map CList.mk)[(k : Int).toNat]? = some (CList.mk (allOf l)[k]) := by simp [hlt]
    refine aW ?_
    refine aS (aB ?_)
    refine aS (aR ?_)
    refine oC (op_ix sl129_CListItm rfl rfl rfl (by omega) hx') ?_
    refine oC (oDR ty72_CListItm rfl rfl) ?_
    refine oC (oA rfl (Conv.of rfl) rfl) ?_
    refine oN ?_
    refine aS (aR ?_)
    refine oC (oM rfl (Conv.of rfl) rfl) ?_
    refine oC (oE sl72 rfl rfl) ?_
    refine oC (oM rfl (Conv.of rfl) rfl) ?_
    refine oC (oE sl72 rfl rfl) ?_
    refine oC (op_gtr rfl rfl rfl) ?_
    refine oN ?_
    refine aC rfl (fun hb => ?_) (fun hb => ?_)
    · have hb' : (((allOf l).take k).foldl tipStep []).length < ((allOf l)[k]).length := by simp at hb; omega
      have hb'' := eq_true hb'
      refine aR ?_
      refine oC (oM rfl (Conv.of rfl) rfl) ?_
      refine oC (oA rfl (Conv.of rfl) rfl) ?_
      refine oN ?_
      refine aR ?_
      refine oC (oP rfl rfl rfl (by omega)) ?_
      refine oC (oM rfl (Conv.of rfl) rfl) ?_
      refine oN ?_
      repeat first | refine nS ?_ | refine nB ?_
      exact ⟨n - 1, _, by omega, ⟨k + 1, by omega, rfl⟩, Le.mk rfl (tle rfl (by (rw [foldl_at _ _ hx]; simp [tipStep, hb''])) rfl (tle rfl (rfl) rfl (tle rfl (by rfl) rfl (tle rfl (rfl) rfl tln)))) oln noS⟩
    · have hb' : ¬ (((allOf l).take k).foldl tipStep []).length < ((allOf l)[k]).length := by simp at hb; omega
      have hb'' := eq_false hb'
      refine aW ?_
      refine aR ?_
      refine oC (oP rfl rfl rfl (by omega)) ?_
      refine oC (oM rfl (Conv.of rfl) rfl) ?_
      refine oN ?_
      repeat first | refine nS ?_ | refine nB ?_
      exact ⟨n - 1, _, by omega, ⟨k + 1, by omega, rfl⟩, Le.mk rfl (tle rfl (by (rw [foldl_at _ _ hx]; simp [tipStep, hb''])) rfl (tle rfl (rfl) rfl (tle rfl (by rfl) rfl (tle rfl (rfl) rfl tln)))) oln noS⟩
  · refine aE ?_
    repeat refine ex_seq ?_
    refine eB ?_
    have hk : (allOf l).length ≤ k := by simpa using h
    refine aS (aR ?_)
    refine oC (oM rfl (Conv.of rfl) rfl) ?_
    refine oC (oA rfl (Conv.of rfl) rfl) ?_
    refine oN ?_
    refine aT ?_
    repeat first | refine rS ?_ | refine rB ?_
    refine finP (.v rfl (Conv.of rfl)) rfl ?_
    simp only [take_end hk]; rfl
theorem final_ct (c : List Itm) (hc : ∀ x ∈ c, 0 ≤ x.epoch ∧ x.epoch ≤ 1000000) : CtP Tryz.prog 85 [.v c] (.v (finLen c)) := by
  have hep : ∀ (i : Nat) (hi : i < c.length), 0 ≤ c[i].epoch ∧ c[i].epoch ≤ 1000000 := fun i hi => hc _ (List.getElem_mem hi)
  refine Ct.intro Tryz.func85 rfl rfl ?_
  refine awp_bigL 0 rfl (fun hB => ?_)
  all_goals refine aS (aR ?_)
  all_goals refine oC (oA rfl (Conv.of rfl) rfl) ?_
  all_goals refine oN ?_
  all_goals refine aS (aS (aR ?_))
  all_goals refine oC (oM rfl (Conv.of rfl) rfl) ?_
  all_goals refine oC (oE sl72 rfl rfl) ?_
  all_goals refine oC (oA rfl (Conv.of rfl) rfl) ?_
  all_goals refine oN ?_
  refine aB ?_
  refine awp_loop' (fun n s => ∃ (k : Nat), ∃ (hn : n = k), ∃ (hk : k ≤ c.length), ∃ (hall : finLen c = finFrom c k), s = mkSt 42 [(0, .v c), (3, .v (k : Int))] []) (c.length) ⟨c.length, rfl, Nat.le_refl _, rfl, rfl⟩ (Le.mk rfl (tle rfl (rfl) rfl (tle rfl (by rfl) rfl tln)) oln noS) ?_
  rintro n s ⟨k, hn, hk, hall, rfl⟩
  all_goals refine aS (aS (aR ?_))
  all_goals refine oC (oM rfl (Conv.of rfl) rfl) ?_
  all_goals refine oC (op_gtr rfl rfl rfl) ?_
  all_goals refine oN ?_
  refine aC rfl (fun h => ?_) (fun h => ?_)
  · obtain ⟨m, rfl⟩ : ∃ m, k = m + 3 := ⟨k - 3, by simp at h; omega⟩
    have h1 : (((m + 3 : Nat) : Int) - 3).toNat = m := by omega
    have h2 : (((m + 3 : Nat) : Int) - 2).toNat = m + 1 := by omega
    have h3 : (((m + 3 : Nat) : Int) - 1).toNat = m + 2 := by omega
    have hx : c[(((m + 3 : Nat) : Int) - 3).toNat]? = some (c[m]'(by omega)) := by rw [h1]; exact List.getElem?_eq_getElem _
    have hy : c[(((m + 3 : Nat) : Int) - 2).toNat]? = some (c[m + 1]'(by omega)) := by rw [h2]; exact List.getElem?_eq_getElem _
    have hz : c[(((m + 3 : Nat) : Int) - 1).toNat]? = some (c[m + 2]'(by omega)) := by rw [h3]; exact List.getElem?_eq_getElem _
    have e1 := hep m (by omega)
    have e2 := hep (m + 1) (by omega)
    have e3 := hep (m + 2) (by omega)
    refine aW ?_
    refine aS (aB ?_)
    refine aST (s' := mkSt 42 [(0, .v c), (3, .v ((m + 3 : Nat) : Int)), (39, .v (decide ((c[m]'(by omega)).epoch + 1 = (c[m + 1]'(by omega)).epoch) && decide ((c[m + 1]'(by omega)).epoch + 1 = (c[m + 2]'(by omega)).epoch)))] []) ?_ ?_
    · all_goals refine dS ?_
      all_goals refine dC (oM rfl (Conv.of rfl) rfl) ?_
      all_goals refine dC (oM rfl (Conv.of rfl) rfl) ?_
      all_goals refine dC (op_sub rfl rfl rfl (by omega)) ?_
      all_goals refine dC (op_ix sl72 rfl rfl rfl (by omega) hx) ?_
      all_goals refine dC (oFR f74_0 rfl rfl) ?_
      all_goals refine dC (oDR ty3 rfl rfl) ?_
      all_goals refine dC (oP rfl rfl rfl (by omega)) ?_
      all_goals refine dC (oM rfl (Conv.of rfl) rfl) ?_
      all_goals refine dC (oM rfl (Conv.of rfl) rfl) ?_
      all_goals refine dC (op_sub rfl rfl rfl (by omega)) ?_
      all_goals refine dC (op_ix sl72 rfl rfl rfl (by omega) hy) ?_
      all_goals refine dC (oFR f74_0 rfl rfl) ?_
      all_goals refine dC (oDR ty3 rfl rfl) ?_
      all_goals refine dC (op_eql rfl rfl rfl) ?_
      all_goals refine dC (oM rfl (Conv.of rfl) rfl) ?_
      all_goals refine dr_split (t := 24) rfl (fun h => ?_) (fun h => ?_)
      all_goals first | refine dC (gF rfl rfl rfl rfl rfl) ?_ | refine dC (gN rfl rfl rfl (oM rfl (Conv.of rfl) rfl)) ?_
      all_goals first | refine dC (gF rfl rfl rfl rfl rfl) ?_ | refine dC (gN rfl rfl rfl (oM rfl (Conv.of rfl) rfl)) ?_
      all_goals first | refine dC (gF rfl rfl rfl rfl rfl) ?_ | refine dC (gN rfl rfl rfl (op_sub rfl rfl rfl (by omega))) ?_
      all_goals first | refine dC (gF rfl rfl rfl rfl rfl) ?_ | refine dC (gN rfl rfl rfl (op_ix sl72 rfl rfl rfl (by omega) hy)) ?_
      all_goals first | refine dC (gF rfl rfl rfl rfl rfl) ?_ | refine dC (gN rfl rfl rfl (oFR f74_0 rfl rfl)) ?_
      all_goals first | refine dC (gF rfl rfl rfl rfl rfl) ?_ | refine dC (gN rfl rfl rfl (oDR ty3 rfl rfl)) ?_
      all_goals first | refine dC (gF rfl rfl rfl rfl rfl) ?_ | refine dC (gN rfl rfl rfl (oP rfl rfl rfl (by omega))) ?_
      all_goals first | refine dC (gF rfl rfl rfl rfl rfl) ?_ | refine dC (gN rfl rfl rfl (oM rfl (Conv.of rfl) rfl)) ?_
      all_goals first | refine dC (gF rfl rfl rfl rfl rfl) ?_ | refine dC (gN rfl rfl rfl (oM rfl (Conv.of rfl) rfl)) ?_
      all_goals first | refine dC (gF rfl rfl rfl rfl rfl) ?_ | refine dC (gN rfl rfl rfl (op_sub rfl rfl rfl (by omega))) ?_
      all_goals first | refine dC (gF rfl rfl rfl rfl rfl) ?_ | refine dC (gN rfl rfl rfl (op_ix sl72 rfl rfl rfl (by omega) hz)) ?_
      all_goals first | refine dC (gF rfl rfl rfl rfl rfl) ?_ | refine dC (gN rfl rfl rfl (oFR f74_0 rfl rfl)) ?_
      all_goals first | refine dC (gF rfl rfl rfl rfl rfl) ?_ | refine dC (gN rfl rfl rfl (oDR ty3 rfl rfl)) ?_
      all_goals first | refine dC (gF rfl rfl rfl rfl rfl) ?_ | refine dC (gN rfl rfl rfl (op_eql rfl rfl rfl)) ?_
      all_goals refine dC (oQ rfl rfl rfl rfl) ?_
      all_goals refine dr_nil mixed rfl ?_
      all_goals exact Le.mk rfl (tle rfl (rfl) rfl (tle rfl (rfl) rfl (tle rfl (by (clear hall; simp_all; try (rw [Bool.eq_iff_iff]; simp))) rfl tln))) oln noS
    have hstep : finFrom c (m + 3) = if (decide ((c[m]'(by omega)).epoch + 1 = (c[m + 1]'(by omega)).epoch) && decide ((c[m + 1]'(by omega)).epoch + 1 = (c[m + 2]'(by omega)).epoch)) then ((m + 2 : Nat) : Int) else finFrom c (m + 2) := by
      have g1 : c[m]? = some (c[m]'(by omega)) := List.getElem?_eq_getElem _
      have g2 : c[m + 1]? = some (c[m + 1]'(by omega)) := List.getElem?_eq_getElem _
      have g3 : c[m + 2]? = some (c[m + 2]'(by omega)) := List.getElem?_eq_getElem _
      show (if _ then _ else _) = _
      simp only [show m + 2 - 2 = m by omega, show m + 2 - 1 = m + 1 by omega, g1, g2, g3, show (2 < m + 2 + 1) = True by simp, decide_true, Bool.true_and]
    refine aC rfl (fun hb => ?_) (fun hb => ?_)
    · all_goals refine aS (aR ?_)
      all_goals refine oC (oM rfl (Conv.of rfl) rfl) ?_
      all_goals refine oC (op_sub rfl rfl rfl (by omega)) ?_
      all_goals refine oC (oA rfl (Conv.of rfl) rfl) ?_
      all_goals refine oN ?_
      refine aT ?_
      repeat first | refine rS ?_ | refine rB ?_
      refine finP (.v rfl (Conv.of rfl)) rfl ?_
      show AV.v _ = _
      rw [hall, hstep, hb, if_pos rfl, show ((m + 3 : Nat) : Int) - 1 = ((m + 2 : Nat) : Int) by omega]
    · refine aW ?_
      all_goals refine aR ?_
      all_goals refine oC (oM rfl (Conv.of rfl) rfl) ?_
      all_goals refine oC (op_sub rfl rfl rfl (by omega)) ?_
      all_goals refine oC (oA rfl (Conv.of rfl) rfl) ?_
      all_goals refine oN ?_
      repeat first | refine nS ?_ | refine nB ?_
      exact ⟨m + 2, _, by omega, ⟨m + 2, rfl, by omega, by rw [hall, hstep, hb]; rfl, rfl⟩, Le.mk rfl (tle rfl (rfl) rfl (tle rfl (by (show AV.v _ = AV.v _; congr 1; omega)) rfl tln)) oln noS⟩
  · refine aE ?_
    repeat refine ex_seq ?_
    refine eB ?_
    have hk2 : k ≤ 2 := by simp at h; omega
    all_goals refine aS (aR ?_)
    all_goals refine oC (oA rfl (Conv.of rfl) rfl) ?_
    all_goals refine oN ?_
    refine aT ?_
    repeat first | refine rS ?_ | refine rB ?_
    refine finP (.v rfl (Conv.of rfl)) rfl ?_
    show AV.v (0 : Int) = _
    rw [hall]
    match k, hk2 with
    | 0, _ => rfl
    | 1, _ => rfl
    | 2, _ => rfl
theorem shown_ct (l : List Vote) (hl : l.length ≤ 100000) (hv : ∀ v ∈ l, v.chain.length ≤ 1000000) (he : ∀ v ∈ l, ∀ x ∈ v.chain, 0 ≤ x.epoch ∧ x.epoch ≤ 1000000) : CtP Tryz.prog 83 [.v l] (.v (CList.mk (shownOf l))) := by
  have hall := allOf_len hl
  have hmem := allOf_mem l
  refine Ct.intro Tryz.func83 rfl rfl ?_
  refine aS (aR ?_)
  refine oC (oA rfl (Conv.of rfl) rfl) ?_
  refine oN ?_
  refine aS (aR ?_)
  refine oC (op_bsc sl72 z74 (.nil _) rfl (by decide) rfl) ?_
  refine oC (oA rfl (Conv.of rfl) rfl) ?_
  refine oN ?_
  refine aS (aS (aR ?_))
  refine oC (oM rfl (Conv.of rfl) rfl) ?_
  refine oC (oL fb120 (.cons rfl (Conv.of rfl) (.nil _)) (all_ct l hl hv) (aK rfl rfl aK0) rfl rfl) ?_
  refine oC (oE sl129_CListItm rfl rfl) ?_
  refine oC (oM rfl (Conv.of rfl) rfl) ?_
  refine oN ?_
  refine aB ?_
  refine awp_loop' (fun n s => ∃ (k : Nat), ∃ (hn : n + k = (allOf l).length), s = mkSt 22 [(3, .v (CList.mk (((allOf l).take k).foldl shownStep []))), (8, .v (CList.mk ((allOf l).map CList.mk))), (9, .v ((allOf l).length : Int)), (10, .v (k : Int))] []) ((allOf l).length) ⟨0, by omega, rfl⟩ (Le.mk rfl (tle rfl (by rfl) rfl (tle rfl (rfl) rfl (tle rfl (by simp) rfl (tle rfl (rfl) rfl tln)))) oln noS) ?_
  rintro n s ⟨k, hn, rfl⟩
  refine aS (aR ?_)
  refine oC (oLt rfl rfl rfl) ?_
  refine oN ?_
  refine aS (aC rfl (fun h => ?_) (fun h => ?_))
  · have hlt : k < (allOf l).length := by simpa using h
    have hx : (allOf l)[k]? = some (allOf l)[k] := List.getElem?_eq_getElem hlt
    have hx' : ((allOf l).map CList.mk)[(k : Int).toNat]? = some (CList.mk (allOf l)[k]) := by simp [hlt]
    have ho : ∀ x ∈ ((allOf l).take k).foldl shownStep [], 0 ≤ x.epoch ∧ x.epoch ≤ 1000000 := by
      rcases shown_mem (((allOf l).take k)) [] with e | e
      · rw [e]; intro x hx; cases hx
      · rcases hmem _ (List.mem_of_mem_take e) with e | ⟨v, hv1, hv2⟩
        · rw [e]; intro x hx; cases hx
        · rw [← hv2]; exact he v hv1
    have hc : ∀ x ∈ (allOf l)[k], 0 ≤ x.epoch ∧ x.epoch ≤ 1000000 := by
      rcases hmem _ (List.getElem_mem hlt) with e | ⟨v, hv1, hv2⟩
      · rw [e]; intro x hx; cases hx
      · rw [← hv2]; exact he v hv1
    refine aW ?_
    refine aS (aB ?_)
    refine aS (aR ?_)
    refine oC (op_ix sl129_CListItm rfl rfl rfl (by omega) hx') ?_
    refine oC (oDR ty72_CListItm rfl rfl) ?_
    refine oC (oA rfl (Conv.of rfl) rfl) ?_
    refine oN ?_
    refine aS (aR ?_)
    refine oC (oM rfl (Conv.of rfl) rfl) ?_
    refine oC (oL fb85 (.cons rfl (Conv.cl) (.nil _)) (final_ct _ hc) (aK rfl rfl aK0) rfl rfl) ?_
    refine oC (oM rfl (Conv.of rfl) rfl) ?_
    refine oC (oL fb85 (.cons rfl (Conv.cl) (.nil _)) (final_ct _ ho) (aK rfl rfl aK0) rfl rfl) ?_
    refine oC (op_gtr rfl rfl rfl) ?_
    refine oN ?_
    refine aC rfl (fun hb => ?_) (fun hb => ?_)
    · have hb' : finLen (((allOf l).take k).foldl shownStep []) < finLen ((allOf l)[k]) := by simpa using hb
      have hb'' := eq_true hb'
      refine aR ?_
      refine oC (oM rfl (Conv.of rfl) rfl) ?_
      refine oC (oA rfl (Conv.of rfl) rfl) ?_
      refine oN ?_
      refine aR ?_
      refine oC (oP rfl rfl rfl (by omega)) ?_
      refine oC (oM rfl (Conv.of rfl) rfl) ?_
      refine oN ?_
      repeat first | refine nS ?_ | refine nB ?_
      exact ⟨n - 1, _, by omega, ⟨k + 1, by omega, rfl⟩, Le.mk rfl (tle rfl (by (rw [foldl_at _ _ hx]; simp [shownStep, hb''])) rfl (tle rfl (rfl) rfl (tle rfl (by rfl) rfl (tle rfl (rfl) rfl tln)))) oln noS⟩
    · have hb' : ¬ finLen (((allOf l).take k).foldl shownStep []) < finLen ((allOf l)[k]) := by simpa using hb
      have hb'' := eq_false hb'
      refine aW ?_
      refine aR ?_
      refine oC (oP rfl rfl rfl (by omega)) ?_
      refine oC (oM rfl (Conv.of rfl) rfl) ?_
      refine oN ?_
      repeat first | refine nS ?_ | refine nB ?_
      exact ⟨n - 1, _, by omega, ⟨k + 1, by omega, rfl⟩, Le.mk rfl (tle rfl (by (rw [foldl_at _ _ hx]; simp [shownStep, hb''])) rfl (tle rfl (rfl) rfl (tle rfl (by rfl) rfl (tle rfl (rfl) rfl tln)))) oln noS⟩
  · refine aE ?_
    repeat refine ex_seq ?_
    refine eB ?_
    have hk : (allOf l).length ≤ k := by simpa using h
    refine aS (aR ?_)
    refine oC (oM rfl (Conv.of rfl) rfl) ?_
    refine oC (oA rfl (Conv.of rfl) rfl) ?_
    refine oN ?_
    refine aT ?_
    repeat first | refine rS ?_ | refine rB ?_
    refine finP (.v rfl (Conv.of rfl)) rfl ?_
    simp only [take_end hk]; rfl
theorem vfinal_ct (l : List Vote) (hl : l.length ≤ 100000) (hv : ∀ v ∈ l, v.chain.length ≤ 1000000) (he : ∀ v ∈ l, ∀ x ∈ v.chain, 0 ≤ x.epoch ∧ x.epoch ≤ 1000000) : CtP Tryz.prog 52 [.v l] (.v (CList.mk (finalOf l))) := by
  have hle := finLen_le (shownOf l)
  have hs : (shownOf l).length ≤ 1000000 ∧ ∀ x ∈ shownOf l, 0 ≤ x.epoch ∧ x.epoch ≤ 1000000 := by
    have : shownOf l = [] ∨ ∃ v ∈ l, v.chain = shownOf l := by
      rcases shown_mem (allOf l) [] with e | e
      · exact .inl e
      · exact allOf_mem l _ e
    rcases this with e | ⟨v, h1, h2⟩
    · rw [e]; exact ⟨by simp, fun x hx => by cases hx⟩
    · rw [← h2]; exact ⟨hv v h1, he v h1⟩
  refine Ct.intro Tryz.func52 rfl rfl ?_
  refine aS (aR ?_)
  refine oC (oA rfl (Conv.of rfl) rfl) ?_
  refine oN ?_
  refine aS (aR ?_)
  refine oC (oM rfl (Conv.of rfl) rfl) ?_
  refine oC (oL fb83 (.cons rfl (Conv.of rfl) (.nil _)) (shown_ct l hl hv he) (aK rfl rfl aK0) rfl rfl) ?_
  refine oC (oA rfl (Conv.of rfl) rfl) ?_
  refine oN ?_
  refine aS (aR ?_)
  refine oC (oM rfl (Conv.of rfl) rfl) ?_
  refine oC (oM rfl (Conv.of rfl) rfl) ?_
  refine oC (oL fb85 (.cons rfl (Conv.cl) (.nil _)) (final_ct _ hs.2) (aK rfl rfl aK0) rfl rfl) ?_
  refine oC (op_slh sl72 rfl rfl rfl hle) ?_
  refine oC (oL fb84 (.cons rfl (Conv.of rfl) (.nil _)) (copied_ct _ (by simp; omega)) (aK rfl rfl aK0) rfl rfl) ?_
  refine oC (oA rfl (Conv.of rfl) rfl) ?_
  refine oN ?_
  refine aT ?_
  repeat first | refine rS ?_ | refine rB ?_
  exact finP (.v rfl (Conv.of rfl)) rfl rfl
end Go.Proofs.YtgfoeiieopnlaaaGreatDoor

/- Nodes. -/
set_option linter.unusedVariables false
set_option linter.unusedSimpArgs false
namespace Go.Proofs.YtgfoeiieopnlaaaGreatDoor
open Go Go.Wt
theorem enter_ct (n : Nod) (e : Int) (hn : 0 ≤ n.epoch ∧ n.epoch ≤ 30) : CtP Tryz.prog 71 [.v n, .v e] (.v (enterF n e)) := by
  refine Ct.intro Tryz.func71 rfl rfl ?_
  refine aS (aR ?_)
  refine oC (op_box (o := 0) ty66 rfl (Conv.of rfl) rfl rfl) ?_
  refine oC (oX (o := 1) z66 rfl rfl) ?_
  refine oN ?_
  refine aS (aS (aR ?_))
  refine oC (oM rfl (Conv.of rfl) rfl) ?_
  refine oC (oF f66_1 rfl rfl) ?_
  refine oC (oD ty3 rfl rfl rfl) ?_
  refine oC (oP rfl rfl rfl (by omega)) ?_
  refine oC (oL fb35 (.cons rfl (Conv.of rfl) (.cons rfl (Conv.of rfl) (.cons rfl (Conv.of rfl) (.nil _)))) (within_ct _ _ _) (aK rfl rfl (aK rfl rfl (aK rfl rfl aK0))) rfl rfl) ?_
  refine oN ?_
  refine aC rfl (fun h => ?_) (fun h => ?_)
  · refine aR ?_
    refine oC (oM rfl (Conv.of rfl) rfl) ?_
    refine oC (oF f66_1 rfl rfl) ?_
    refine oC (op_st ty3 rfl rfl (Conv.of rfl) rfl) ?_
    refine oN ?_
    refine aS (aR ?_)
    refine oC (oD ty66 rfl rfl rfl) ?_
    refine oC (op_st ty66 rfl rfl (Conv.of rfl) rfl) ?_
    refine oN ?_
    refine aT ?_
    repeat first | refine rS ?_ | refine rB ?_
    refine finP (.rc ty66 rfl rfl) rfl ?_
    show AV.v _ = _
    simp [enterF, h]
  · refine aW ?_
    refine aS (aR ?_)
    refine oC (oD ty66 rfl rfl rfl) ?_
    refine oC (op_st ty66 rfl rfl (Conv.of rfl) rfl) ?_
    refine oN ?_
    refine aT ?_
    repeat first | refine rS ?_ | refine rB ?_
    refine finP (.rc ty66 rfl rfl) rfl ?_
    show AV.v _ = _
    simp [enterF, h]
theorem may_ct (n : Nod) : CtP Tryz.prog 109 [.v n] (.v (mayN n)) := by
  refine Ct.intro Tryz.func109 rfl rfl ?_
  all_goals refine aS (aR ?_)
  all_goals refine oC (op_box (o := 0) ty66 rfl (Conv.of rfl) rfl rfl) ?_
  all_goals refine oC (oA rfl (Conv.of rfl) rfl) ?_
  all_goals refine oN ?_
  all_goals refine aS (aR ?_)
  all_goals refine oC (oF f66_1 rfl rfl) ?_
  all_goals refine oC (oD ty3 rfl rfl rfl) ?_
  all_goals refine oC (op_gtr rfl rfl rfl) ?_
  all_goals refine oC (oM rfl (Conv.of rfl) rfl) ?_
  all_goals refine g_split (t := 6) rfl (fun h => ?_) (fun h => ?_)
  all_goals first | refine oC (gF rfl rfl rfl rfl rfl) ?_ | refine oC (gN rfl rfl rfl (oF f66_2 rfl rfl)) ?_
  all_goals first | refine oC (gF rfl rfl rfl rfl rfl) ?_ | refine oC (gN rfl rfl rfl (oD ty3 rfl rfl rfl)) ?_
  all_goals first | refine oC (gF rfl rfl rfl rfl rfl) ?_ | refine oC (gN rfl rfl rfl (oF f66_1 rfl rfl)) ?_
  all_goals first | refine oC (gF rfl rfl rfl rfl rfl) ?_ | refine oC (gN rfl rfl rfl (oD ty3 rfl rfl rfl)) ?_
  all_goals first | refine oC (gF rfl rfl rfl rfl rfl) ?_ | refine oC (gN rfl rfl rfl (op_neq rfl rfl rfl)) ?_
  all_goals refine oC (oQ rfl rfl rfl rfl) ?_
  all_goals refine oC (oA rfl (Conv.of rfl) rfl) ?_
  all_goals refine oN ?_
  all_goals refine aT ?_
  all_goals refine finP (.v rfl (Conv.of rfl)) rfl ?_
  all_goals (simp_all [FV.av, mayN] <;> omega)
theorem nvote_ct (n : Nod) (c : List Itm) (hn : Gd n.seen) (hc : c.length ≤ 1000000) : CtP Tryz.prog 110 [.v n, .v c] (res3 (voteF n c)) := by
  refine Ct.intro Tryz.func110 rfl rfl ?_
  refine aS (aR ?_)
  refine oC (op_box (o := 0) ty66 rfl (Conv.of rfl) rfl rfl) ?_
  refine oC (oX (o := 1) z66 rfl rfl) ?_
  refine oC (oX (o := 2) z78 rfl rfl) ?_
  refine oC (oA rfl (Conv.of rfl) rfl) ?_
  refine oN ?_
  refine aS (aS (aR ?_))
  refine oC (oF f66_3 rfl rfl) ?_
  refine oC (oD ty36 rfl rfl rfl) ?_
  refine oC (oE sl36 rfl rfl) ?_
  refine oC (op_geq rfl rfl rfl) ?_
  refine oN ?_
  refine aC rfl (fun h => ?_) (fun h => ?_)
  · have h' : decide (80 ≤ n.seen.length) = true := by simp at h ⊢; omega
    refine aS (aR ?_)
    refine oC (oD ty66 rfl rfl rfl) ?_
    refine oC (op_build (.nil _) z78 rfl pl78 rfl) ?_
    refine oC (op_st ty66 rfl rfl (Conv.of rfl) rfl) ?_
    refine oC (op_st ty78 rfl rfl (Conv.of rfl) rfl) ?_
    refine oC (oA rfl (Conv.of rfl) rfl) ?_
    refine oN ?_
    refine aT ?_
    repeat first | refine rS ?_ | refine rB ?_
    refine finN (.cons (.rc ty66 rfl rfl) (.cons (.rc ty78 rfl rfl) (.cons (.v rfl (Conv.of rfl)) .nil))) rfl rfl ?_
    simp only [voteF, h', if_true]; rfl
  · have h' : decide (80 ≤ n.seen.length) = false := by simp at h ⊢; omega
    refine aW ?_
    refine aS (aR ?_)
    refine oC (oF f66_0 rfl rfl) ?_
    refine oC (oD ty3 rfl rfl rfl) ?_
    refine oC (oM rfl (Conv.of rfl) rfl) ?_
    refine oC (op_build (.cons f78_0 rfl (Conv.of rfl) (.cons f78_1 rfl (Conv.of rfl) (.nil _))) z78 rfl pl78 rfl) ?_
    refine oC (oX (o := 3) z78 rfl rfl) ?_
    refine oC (op_st ty78 rfl rfl (Conv.of rfl) rfl) ?_
    refine oN ?_
    refine aS (aR ?_)
    refine oC (oF f66_1 rfl rfl) ?_
    refine oC (oD ty3 rfl rfl rfl) ?_
    refine oC (oF f66_2 rfl rfl) ?_
    refine oC (op_st ty3 rfl rfl (Conv.of rfl) rfl) ?_
    refine oN ?_
    refine aS (aR ?_)
    refine oC (oF f66_3 rfl rfl) ?_
    refine oC (oD ty36 rfl rfl rfl) ?_
    refine oC (oD ty78 rfl rfl rfl) ?_
    refine oC (oL fb112 (.cons rfl (Conv.of rfl) (.cons rfl (Conv.of rfl) (.nil _))) (with_ct _ ⟨n.id, c⟩ hn.l' hc) (aK rfl rfl (aK rfl rfl aK0)) rfl rfl) ?_
    refine oC (oF f66_3 rfl rfl) ?_
    refine oC (op_st ty36 rfl rfl (Conv.cl) rfl) ?_
    refine oN ?_
    refine aS (dS ?_)
    refine dC (oD ty66 rfl rfl rfl) ?_
    refine dC (oD ty78 rfl rfl rfl) ?_
    refine dC (oL fb140 (.cons rfl (Conv.of rfl) (.nil _)) (voteCopied_ct ⟨n.id, c⟩ hc) (aK rfl rfl aK0) rfl rfl) ?_
    refine dC (op_st ty66 rfl rfl (Conv.of rfl) rfl) ?_
    refine dC (op_st ty78 rfl rfl (Conv.of rfl) rfl) ?_
    refine dC (oA rfl (Conv.of rfl) rfl) ?_
    refine dr_nil mixed rfl ?_
    refine aT ?_
    repeat first | refine rS ?_ | refine rB ?_
    refine finN (.cons (.rc ty66 rfl rfl) (.cons (.rc ty78 rfl rfl) (.cons (.v rfl (Conv.of rfl)) .nil))) rfl rfl ?_
    simp only [voteF, h']; rfl
set_option maxHeartbeats 1000000 in
theorem npropose_ct (n : Nod) (p : Pay) (hn : Gd n.seen) : CtP Tryz.prog 73 [.v n, .v p] (res3 (proposeF n p)) := by
  have htip := hn.tip
  refine Ct.intro Tryz.func73 rfl rfl ?_
  all_goals refine aS (aR ?_)
  all_goals refine oC (op_box (o := 0) ty66 rfl (Conv.of rfl) rfl rfl) ?_
  all_goals refine oC (op_box (o := 1) ty61 rfl (Conv.of rfl) rfl rfl) ?_
  all_goals refine oC (oX (o := 2) z66 rfl rfl) ?_
  all_goals refine oC (oX (o := 3) z78 rfl rfl) ?_
  all_goals refine oC (oA rfl (Conv.of rfl) rfl) ?_
  all_goals refine oN ?_
  all_goals refine aS (dS ?_)
  all_goals refine dC (oF f66_3 rfl rfl) ?_
  all_goals refine dC (oD ty36 rfl rfl rfl) ?_
  all_goals refine dC (oL fb108 (.cons rfl (Conv.of rfl) (.nil _)) (tip_ct _ hn.l hn.v) (aK rfl rfl aK0) rfl rfl) ?_
  all_goals refine dC (oF f66_1 rfl rfl) ?_
  all_goals refine dC (oD ty3 rfl rfl rfl) ?_
  all_goals refine dC (oD ty61 rfl rfl rfl) ?_
  all_goals refine dC (op_build (.cons f74_0 rfl (Conv.of rfl) (.cons f74_1 rfl (Conv.of rfl) (.nil _))) z74 rfl pl74 rfl) ?_
  all_goals refine dC (op_bsl sl72 z74 (.cons rfl (Conv.of rfl) (.nil _)) rfl (by decide) rfl) ?_
  all_goals refine dC (op_app sl72 z74 ul72 rfl rfl rfl (by (simp; omega)) (by (simp; omega)) rfl rfl) ?_
  all_goals refine dC (op_asl rfl rfl rfl rfl) ?_
  all_goals refine dr_nil mixed rfl ?_
  refine aS (aST (s' := mkSt 41 [(2, .box 0 (IsLens.whole Nod)), (4, .box 2 (IsLens.whole Nod)), (5, .box 3 (IsLens.whole Vote)), (6, .v false), (7, .v (OList.mk (tipOf n.seen ++ [⟨n.epoch, p⟩]) true)), (32, .v (!(mayN n && decide (leader n.epoch = n.id) && chainOk (tipOf n.seen ++ [⟨n.epoch, p⟩]))))] [(0, .cell n), (2, .cell Nod.zero), (3, .cell Vote.zero)]) ?_ ?_)
  · all_goals refine dS ?_
    all_goals refine dC (oD ty66 rfl rfl rfl) ?_
    all_goals refine dC (oL fb109 (.cons rfl (Conv.of rfl) (.nil _)) (may_ct _) (aK rfl rfl aK0) rfl rfl) ?_
    all_goals refine dC (op_not rfl rfl) ?_
    all_goals refine dC (oM rfl (Conv.of rfl) rfl) ?_
    all_goals refine dr_split (t := 20) rfl (fun h => ?_) (fun h => ?_)
    all_goals first | refine dC (gF rfl rfl rfl rfl rfl) ?_ | refine dC (gN rfl rfl rfl (oF f66_1 rfl rfl)) ?_
    all_goals first | refine dC (gF rfl rfl rfl rfl rfl) ?_ | refine dC (gN rfl rfl rfl (oD ty3 rfl rfl rfl)) ?_
    all_goals first | refine dC (gF rfl rfl rfl rfl rfl) ?_ | refine dC (gN rfl rfl rfl (oL fb78 (.cons rfl (Conv.of rfl) (.nil _)) (leader_ct _) (aK rfl rfl aK0) rfl rfl)) ?_
    all_goals first | refine dC (gF rfl rfl rfl rfl rfl) ?_ | refine dC (gN rfl rfl rfl (oF f66_0 rfl rfl)) ?_
    all_goals first | refine dC (gF rfl rfl rfl rfl rfl) ?_ | refine dC (gN rfl rfl rfl (oD ty3 rfl rfl rfl)) ?_
    all_goals first | refine dC (gF rfl rfl rfl rfl rfl) ?_ | refine dC (gN rfl rfl rfl (op_neq rfl rfl rfl)) ?_
    all_goals refine dC (oQ rfl rfl rfl rfl) ?_
    all_goals refine dC (oM rfl (Conv.of rfl) rfl) ?_
    all_goals first | refine dr_lit (t := 28) (b := true) rfl ?_ | refine dr_split (t := 28) rfl (fun h => ?_) (fun h => ?_)
    all_goals first | refine dC (gF rfl rfl rfl rfl rfl) ?_ | refine dC (gN rfl rfl rfl (oM rfl Conv.ol rfl)) ?_
    all_goals first | refine dC (gF rfl rfl rfl rfl rfl) ?_ | refine dC (gN rfl rfl rfl (oL fb86 (.cons rfl (Conv.of rfl) (.nil _)) (chainOk_ct _) (aK rfl rfl aK0) rfl rfl)) ?_
    all_goals first | refine dC (gF rfl rfl rfl rfl rfl) ?_ | refine dC (gN rfl rfl rfl (op_not rfl rfl)) ?_
    all_goals refine dC (oQ rfl rfl rfl rfl) ?_
    all_goals refine dr_nil mixed rfl ?_
    all_goals exact Le.mk rfl (tlb rfl rfl rfl (tlb rfl rfl rfl (tlb rfl rfl rfl (tle rfl (rfl) rfl (tle rfl (rfl) rfl (tle rfl (by (clear htip; simp_all)) rfl tln)))))) (olk rfl (by exact bC) (olk rfl (by exact bC) (olk rfl (by exact bC) oln))) noS
  refine aC rfl (fun h => ?_) (fun h => ?_)
  · all_goals refine aS (aR ?_)
    all_goals refine oC (oD ty66 rfl rfl rfl) ?_
    all_goals refine oC (op_build (.nil _) z78 rfl pl78 rfl) ?_
    all_goals refine oC (op_st ty66 rfl rfl (Conv.of rfl) rfl) ?_
    all_goals refine oC (op_st ty78 rfl rfl (Conv.of rfl) rfl) ?_
    all_goals refine oC (oA rfl (Conv.of rfl) rfl) ?_
    all_goals refine oN ?_
    refine aT ?_
    repeat first | refine rS ?_ | refine rB ?_
    refine finN (.cons (.rc ty66 rfl rfl) (.cons (.rc ty78 rfl rfl) (.cons (.v rfl (Conv.of rfl)) .nil))) rfl rfl ?_
    have h' := not_t h
    rw [proposeF, h']; rfl
  · have h' := not_f h
    refine aW ?_
    all_goals refine aS (aR ?_)
    all_goals refine oC (oD ty66 rfl rfl rfl) ?_
    all_goals refine oC (oM rfl Conv.ol rfl) ?_
    all_goals refine oC (oL fb110 (.cons rfl (Conv.of rfl) (.cons rfl (Conv.of rfl) (.nil _))) (nvote_ct _ _ hn (by simp; omega)) (aK rfl rfl (aK rfl rfl aK0)) rfl rfl) ?_
    all_goals refine oC (op_ext rfl rfl rfl) ?_
    all_goals refine oC (op_ext rfl rfl rfl) ?_
    all_goals refine oC (op_ext rfl rfl rfl) ?_
    all_goals refine oC (op_st ty66 rfl rfl (Conv.of rfl) rfl) ?_
    all_goals refine oC (op_st ty78 rfl rfl (Conv.of rfl) rfl) ?_
    all_goals refine oC (oA rfl (Conv.of rfl) rfl) ?_
    all_goals refine oN ?_
    refine aT ?_
    repeat first | refine rS ?_ | refine rB ?_
    refine finN (.cons (.rc ty66 rfl rfl) (.cons (.rc ty78 rfl rfl) (.cons (.v rfl (Conv.of rfl)) .nil))) rfl rfl ?_
    rw [proposeF, h']; rfl
end Go.Proofs.YtgfoeiieopnlaaaGreatDoor

/- A node hears a vote. -/
set_option linter.unusedVariables false
set_option linter.unusedSimpArgs false
namespace Go.Proofs.YtgfoeiieopnlaaaGreatDoor
open Go Go.Wt
set_option maxHeartbeats 2000000 in
theorem nhear_ct (n : Nod) (v : Vote) (hn : Gd n.seen) : CtP Tryz.prog 76 [.v n, .v v] (res3 (hearF n v)) := by
  refine Ct.intro Tryz.func76 rfl rfl ?_
  all_goals refine aS (aR ?_)
  all_goals refine oC (op_box (o := 0) ty66 rfl (Conv.of rfl) rfl rfl) ?_
  all_goals refine oC (op_box (o := 1) ty78 rfl (Conv.of rfl) rfl rfl) ?_
  all_goals refine oC (oX (o := 2) z66 rfl rfl) ?_
  all_goals refine oC (oX (o := 3) z78 rfl rfl) ?_
  all_goals refine oC (oA rfl (Conv.of rfl) rfl) ?_
  all_goals refine oN ?_
  refine aS (aST (s' := mkSt 99 [(2, .box 0 (IsLens.whole Nod)), (3, .box 1 (IsLens.whole Vote)), (4, .box 2 (IsLens.whole Nod)), (5, .box 3 (IsLens.whole Vote)), (6, .v false), (28, .v (!(voteOk v && !decide (v.by_ = n.id) && decide (n.seen.length < 80))))] [(0, .cell n), (1, .cell v), (2, .cell Nod.zero), (3, .cell Vote.zero)]) ?_ ?_)
  · all_goals refine aR ?_
    all_goals refine oC (oD ty78 rfl rfl rfl) ?_
    all_goals refine oC (oL fb77 (.cons rfl (Conv.of rfl) (.nil _)) (voteOk_ct _) (aK rfl rfl aK0) rfl rfl) ?_
    all_goals refine oC (op_not rfl rfl) ?_
    all_goals refine oC (oM rfl (Conv.of rfl) rfl) ?_
    all_goals refine g_split (t := 16) rfl (fun h => ?_) (fun h => ?_)
    all_goals first | refine oC (gF rfl rfl rfl rfl rfl) ?_ | refine oC (gN rfl rfl rfl (oF f78_0 rfl rfl)) ?_
    all_goals first | refine oC (gF rfl rfl rfl rfl rfl) ?_ | refine oC (gN rfl rfl rfl (oD ty3 rfl rfl rfl)) ?_
    all_goals first | refine oC (gF rfl rfl rfl rfl rfl) ?_ | refine oC (gN rfl rfl rfl (oF f66_0 rfl rfl)) ?_
    all_goals first | refine oC (gF rfl rfl rfl rfl rfl) ?_ | refine oC (gN rfl rfl rfl (oD ty3 rfl rfl rfl)) ?_
    all_goals first | refine oC (gF rfl rfl rfl rfl rfl) ?_ | refine oC (gN rfl rfl rfl (op_eql rfl rfl rfl)) ?_
    all_goals refine oC (oQ rfl rfl rfl rfl) ?_
    all_goals refine oC (oM rfl (Conv.of rfl) rfl) ?_
    all_goals first | refine g_lit (t := 23) (b := true) rfl ?_ | refine g_split (t := 23) rfl (fun h => ?_) (fun h => ?_)
    all_goals first | refine oC (gF rfl rfl rfl rfl rfl) ?_ | refine oC (gN rfl rfl rfl (oF f66_3 rfl rfl)) ?_
    all_goals first | refine oC (gF rfl rfl rfl rfl rfl) ?_ | refine oC (gN rfl rfl rfl (oD ty36 rfl rfl rfl)) ?_
    all_goals first | refine oC (gF rfl rfl rfl rfl rfl) ?_ | refine oC (gN rfl rfl rfl (oE sl36 rfl rfl)) ?_
    all_goals first | refine oC (gF rfl rfl rfl rfl rfl) ?_ | refine oC (gN rfl rfl rfl (op_geq rfl rfl rfl)) ?_
    all_goals refine oC (oQ rfl rfl rfl rfl) ?_
    all_goals refine oN ?_
    all_goals exact Le.mk rfl (tlb rfl rfl rfl (tlb rfl rfl rfl (tlb rfl rfl rfl (tlb rfl rfl rfl (tle rfl (rfl) rfl (tle rfl (by (simp_all; try (rw [Bool.eq_iff_iff]; simp; try omega))) rfl tln)))))) (olk rfl (by exact bC) (olk rfl (by exact bC) (olk rfl (by exact bC) (olk rfl (by exact bC) oln)))) noS
  refine aC rfl (fun h => ?_) (fun h => ?_)
  · all_goals refine aS (aR ?_)
    all_goals refine oC (oD ty66 rfl rfl rfl) ?_
    all_goals refine oC (op_build (.nil _) z78 rfl pl78 rfl) ?_
    all_goals refine oC (op_st ty66 rfl rfl (Conv.of rfl) rfl) ?_
    all_goals refine oC (op_st ty78 rfl rfl (Conv.of rfl) rfl) ?_
    all_goals refine oC (oA rfl (Conv.of rfl) rfl) ?_
    all_goals refine oN ?_
    refine aT ?_
    repeat first | refine rS ?_ | refine rB ?_
    refine finN (.cons (.rc ty66 rfl rfl) (.cons (.rc ty78 rfl rfl) (.cons (.v rfl (Conv.of rfl)) .nil))) rfl rfl ?_
    rw [hearF, not_t h]; rfl
  · have h0 := not_f h
    refine aW ?_
    have h0' := h0
    simp only [Bool.and_eq_true] at h0'
    have hvo : voteOk v = true := h0'.1.1
    have hlen : n.seen.length < 80 := by simpa using h0'.2
    have hgd := seeF_gd hn hvo hlen
    refine aST (s' := mkSt 99 [(2, .box 0 (IsLens.whole Nod)), (4, .box 2 (IsLens.whole Nod)), (5, .box 3 (IsLens.whole Vote)), (6, .v false)] [(0, .cell (seeF n v)), (2, .cell Nod.zero), (3, .cell Vote.zero)]) ?_ ?_
    · all_goals refine aS (aR ?_)
      all_goals refine oC (oF f66_3 rfl rfl) ?_
      all_goals refine oC (oD ty36 rfl rfl rfl) ?_
      all_goals refine oC (oD ty78 rfl rfl rfl) ?_
      all_goals refine oC (oL fb111 (.cons rfl (Conv.of rfl) (.cons rfl (Conv.of rfl) (.nil _))) (has_ct _ _) (aK rfl rfl (aK rfl rfl aK0)) rfl rfl) ?_
      all_goals refine oC (op_not rfl rfl) ?_
      all_goals refine oN ?_
      refine aC rfl (fun hb => ?_) (fun hb => ?_)
      · have hb' : ¬ v ∈ n.seen := by simpa using hb
        all_goals refine aR ?_
        all_goals refine oC (oF f66_3 rfl rfl) ?_
        all_goals refine oC (oD ty36 rfl rfl rfl) ?_
        all_goals refine oC (oD ty78 rfl rfl rfl) ?_
        all_goals refine oC (oL fb112 (.cons rfl (Conv.of rfl) (.cons rfl (Conv.of rfl) (.nil _))) (with_ct _ _ hn.l' (voteOk_len hvo)) (aK rfl rfl (aK rfl rfl aK0)) rfl rfl) ?_
        all_goals refine oC (oF f66_3 rfl rfl) ?_
        all_goals refine oC (op_st ty36 rfl rfl (Conv.cl) rfl) ?_
        all_goals refine oN ?_
        all_goals exact Le.mk rfl (tlb rfl rfl rfl (tlb rfl rfl rfl (tlb rfl rfl rfl (tle rfl (rfl) rfl tln)))) (olk (by (simp [seeF, *]; try rfl)) (by exact bC) (olk rfl (by exact bC) (olk rfl (by exact bC) oln))) noS
      · have hb' : v ∈ n.seen := by simpa using hb
        refine aW ?_
        all_goals exact Le.mk rfl (tlb rfl rfl rfl (tlb rfl rfl rfl (tlb rfl rfl rfl (tle rfl (rfl) rfl tln)))) (olk (by (simp [seeF, *]; try rfl)) (by exact bC) (olk rfl (by exact bC) (olk rfl (by exact bC) oln))) noS
    · generalize hm : seeF n v = m at *
      all_goals refine aS (aS (aR ?_))
      all_goals refine oC (oD ty66 rfl rfl rfl) ?_
      all_goals refine oC (oL fb109 (.cons rfl (Conv.of rfl) (.nil _)) (may_ct _) (aK rfl rfl aK0) rfl rfl) ?_
      all_goals refine oC (op_not rfl rfl) ?_
      all_goals refine oN ?_
      refine aC rfl (fun hb => ?_) (fun hb => ?_)
      · all_goals refine aS (aR ?_)
        all_goals refine oC (oD ty66 rfl rfl rfl) ?_
        all_goals refine oC (op_build (.nil _) z78 rfl pl78 rfl) ?_
        all_goals refine oC (op_st ty66 rfl rfl (Conv.of rfl) rfl) ?_
        all_goals refine oC (op_st ty78 rfl rfl (Conv.of rfl) rfl) ?_
        all_goals refine oC (oA rfl (Conv.of rfl) rfl) ?_
        all_goals refine oN ?_
        refine aT ?_
        repeat first | refine rS ?_ | refine rB ?_
        refine finN (.cons (.rc ty66 rfl rfl) (.cons (.rc ty78 rfl rfl) (.cons (.v rfl (Conv.of rfl)) .nil))) rfl rfl ?_
        rw [hearF, h0, hm, not_t hb]; rfl
      · have hres : hearF n v = tryF m m.seen := by rw [hearF, h0, hm, not_f hb]; rfl
        rw [hres]
        refine aW ?_
        all_goals refine aS (aR ?_)
        all_goals refine oC (oF f66_3 rfl rfl) ?_
        all_goals refine oC (oD ty36 rfl rfl rfl) ?_
        all_goals refine oC (oA rfl (Conv.of rfl) rfl) ?_
        all_goals refine oN ?_
        all_goals refine aS (dS ?_)
        all_goals refine dC (oM rfl (Conv.of rfl) rfl) ?_
        all_goals refine dC (oL fb108 (.cons rfl (Conv.of rfl) (.nil _)) (tip_ct _ hgd.l hgd.v) (aK rfl rfl aK0) rfl rfl) ?_
        all_goals refine dC (oE sl72 rfl rfl) ?_
        all_goals refine dC (oF f66_1 rfl rfl) ?_
        all_goals refine dC (oD ty3 rfl rfl rfl) ?_
        all_goals refine dC (oL fb78 (.cons rfl (Conv.of rfl) (.nil _)) (leader_ct _) (aK rfl rfl aK0) rfl rfl) ?_
        all_goals refine dC (oA rfl (Conv.of rfl) rfl) ?_
        all_goals refine dC (oA rfl (Conv.of rfl) rfl) ?_
        all_goals refine dr_nil mixed rfl ?_
        all_goals refine aS (aS (aR ?_))
        all_goals refine oC (oM rfl (Conv.of rfl) rfl) ?_
        all_goals refine oC (oE sl85 rfl rfl) ?_
        all_goals refine oC (oM rfl (Conv.of rfl) rfl) ?_
        all_goals refine oN ?_
        refine aB ?_
        refine awp_loop' (fun n_ s => ∃ (k : Nat), ∃ (hn : n_ + k = m.seen.length), ∃ (hall : tryF m m.seen = tryF m (m.seen.drop k)), s = mkSt 99 [(2, .box 0 (IsLens.whole Nod)), (4, .box 2 (IsLens.whole Nod)), (5, .box 3 (IsLens.whole Vote)), (6, .v false), (7, .v m.seen), (8, .v ((tipOf m.seen).length : Int)), (9, .v (leader m.epoch)), (54, .v m.seen), (55, .v (m.seen.length : Int)), (56, .v (k : Int))] [(0, .cell m), (2, .cell Nod.zero), (3, .cell Vote.zero)]) (m.seen.length) ⟨0, by omega, rfl, rfl⟩ (Le.mk rfl (tlb rfl rfl rfl (tlb rfl rfl rfl (tlb rfl rfl rfl (tle rfl (rfl) rfl (tle rfl (rfl) rfl (tle rfl (rfl) rfl (tle rfl (rfl) rfl (tle rfl (rfl) rfl (tle rfl (rfl) rfl (tle rfl (rfl) rfl tln)))))))))) (olk rfl (by exact bC) (olk rfl (by exact bC) (olk rfl (by exact bC) oln))) noS) ?_
        rintro n_ s ⟨k, hn, hall, rfl⟩
        have hml := hgd.len
        all_goals refine aS (aR ?_)
        all_goals refine oC (oLt rfl rfl rfl) ?_
        all_goals refine oN ?_
        refine aS (aC rfl (fun h => ?_) (fun h => ?_))
        · have hlt : k < m.seen.length := by simpa using h
          have hx : m.seen[k]? = some m.seen[k] := List.getElem?_eq_getElem hlt
          have huo := hgd.ok _ (List.getElem_mem hlt)
          have hup := voteOk_pos huo
          have hul := voteOk_len huo
          have hs := tryF_drop m hx
          refine aW ?_
          refine aS (aB ?_)
          all_goals refine aS (aR ?_)
          all_goals refine oC (op_ix sl85 rfl rfl rfl (by omega) hx) ?_
          all_goals refine oC (oDR ty78 rfl rfl) ?_
          all_goals refine oC (oX (o := 4) z78 rfl rfl) ?_
          all_goals refine oC (op_st ty78 rfl rfl (Conv.of rfl) rfl) ?_
          all_goals refine oN ?_
          all_goals refine aS (aR ?_)
          all_goals refine oC (oF f78_1 rfl rfl) ?_
          all_goals refine oC (oD ty72 rfl rfl rfl) ?_
          all_goals refine oC (oF f78_1 rfl rfl) ?_
          all_goals refine oC (oD ty72 rfl rfl rfl) ?_
          all_goals refine oC (oE sl72 rfl rfl) ?_
          all_goals refine oC (op_sub rfl rfl rfl (by omega)) ?_
          all_goals refine oC (op_slh sl72 rfl rfl rfl ⟨by omega, by omega⟩) ?_
          all_goals refine oC (oA rfl (Conv.of rfl) rfl) ?_
          all_goals refine oN ?_
          have htk : (((m.seen[k]).chain.length : Int) - 1).toNat = (m.seen[k]).chain.length - 1 := by omega
          refine aST (s' := mkSt 99 [(2, .box 0 (IsLens.whole Nod)), (4, .box 2 (IsLens.whole Nod)), (5, .box 3 (IsLens.whole Vote)), (6, .v false), (7, .v m.seen), (8, .v ((tipOf m.seen).length : Int)), (9, .v (leader m.epoch)), (11, .box 4 (IsLens.whole Vote)), (54, .v m.seen), (55, .v (m.seen.length : Int)), (56, .v (k : Int)), (88, .v (fits m m.seen[k]))] [(0, .cell m), (2, .cell Nod.zero), (3, .cell Vote.zero), (4, .cell m.seen[k])]) ?_ ?_
          · all_goals refine dS ?_
            all_goals refine dC (oF f78_0 rfl rfl) ?_
            all_goals refine dC (oD ty3 rfl rfl rfl) ?_
            all_goals refine dC (oM rfl (Conv.of rfl) rfl) ?_
            all_goals refine dC (op_eql rfl rfl rfl) ?_
            all_goals refine dC (oM rfl (Conv.of rfl) rfl) ?_
            all_goals refine dr_split (t := 71) rfl (fun h => ?_) (fun h => ?_)
            all_goals first | refine dC (gF rfl rfl rfl rfl rfl) ?_ | refine dC (gN rfl rfl rfl (oD ty78 rfl rfl rfl)) ?_
            all_goals first | refine dC (gF rfl rfl rfl rfl rfl) ?_ | refine dC (gN rfl rfl rfl (oL fb113 (.cons rfl (Conv.of rfl) (.nil _)) (last_ct _ hup) (aK rfl rfl aK0) rfl rfl)) ?_
            all_goals first | refine dC (gF rfl rfl rfl rfl rfl) ?_ | refine dC (gN rfl rfl rfl (oF f66_1 rfl rfl)) ?_
            all_goals first | refine dC (gF rfl rfl rfl rfl rfl) ?_ | refine dC (gN rfl rfl rfl (oD ty3 rfl rfl rfl)) ?_
            all_goals first | refine dC (gF rfl rfl rfl rfl rfl) ?_ | refine dC (gN rfl rfl rfl (op_eql rfl rfl rfl)) ?_
            all_goals refine dC (oQ rfl rfl rfl rfl) ?_
            all_goals refine dC (oM rfl (Conv.of rfl) rfl) ?_
            all_goals first | refine dr_lit (t := 78) (b := false) rfl ?_ | refine dr_split (t := 78) rfl (fun h => ?_) (fun h => ?_)
            all_goals first | refine dC (gF rfl rfl rfl rfl rfl) ?_ | refine dC (gN rfl rfl rfl (oM rfl (Conv.of rfl) rfl)) ?_
            all_goals first | refine dC (gF rfl rfl rfl rfl rfl) ?_ | refine dC (gN rfl rfl rfl (oE sl72 rfl rfl)) ?_
            all_goals first | refine dC (gF rfl rfl rfl rfl rfl) ?_ | refine dC (gN rfl rfl rfl (oM rfl (Conv.of rfl) rfl)) ?_
            all_goals first | refine dC (gF rfl rfl rfl rfl rfl) ?_ | refine dC (gN rfl rfl rfl (op_eql rfl rfl rfl)) ?_
            all_goals refine dC (oQ rfl rfl rfl rfl) ?_
            all_goals refine dC (oM rfl (Conv.of rfl) rfl) ?_
            all_goals first | refine dr_lit (t := 84) (b := false) rfl ?_ | refine dr_split (t := 84) rfl (fun h => ?_) (fun h => ?_)
            all_goals first | refine dC (gF rfl rfl rfl rfl rfl) ?_ | refine dC (gN rfl rfl rfl (oM rfl (Conv.of rfl) rfl)) ?_
            all_goals first | refine dC (gF rfl rfl rfl rfl rfl) ?_ | refine dC (gN rfl rfl rfl (oM rfl (Conv.of rfl) rfl)) ?_
            all_goals first | refine dC (gF rfl rfl rfl rfl rfl) ?_ | refine dC (gN rfl rfl rfl (oL fb114 (.cons rfl (Conv.of rfl) (.cons rfl (Conv.of rfl) (.nil _))) (sure_ct _ _) (aK rfl rfl (aK rfl rfl aK0)) rfl rfl)) ?_
            all_goals refine dC (oQ rfl rfl rfl rfl) ?_
            all_goals refine dr_nil mixed rfl ?_
            all_goals exact Le.mk rfl (tlb rfl rfl rfl (tlb rfl rfl rfl (tlb rfl rfl rfl (tle rfl (rfl) rfl (tle rfl (rfl) rfl (tle rfl (rfl) rfl (tle rfl (rfl) rfl (tlb rfl rfl rfl (tle rfl (rfl) rfl (tle rfl (rfl) rfl (tle rfl (rfl) rfl (tle rfl (by (show AV.v _ = AV.v _; congr 1; rw [fits_alt hup]; clear hall hs hres; simp_all)) rfl tln)))))))))))) (olk rfl (by exact bC) (olk rfl (by exact bC) (olk rfl (by exact bC) (olk rfl (by exact bC) oln)))) noS
          refine aC rfl (fun hb => ?_) (fun hb => ?_)
          · all_goals refine aS (aR ?_)
            all_goals refine oC (oD ty66 rfl rfl rfl) ?_
            all_goals refine oC (oF f78_1 rfl rfl) ?_
            all_goals refine oC (oD ty72 rfl rfl rfl) ?_
            all_goals refine oC (oL fb110 (.cons rfl (Conv.of rfl) (.cons rfl (Conv.of rfl) (.nil _))) (nvote_ct _ _ hgd hul) (aK rfl rfl (aK rfl rfl aK0)) rfl rfl) ?_
            all_goals refine oC (op_ext rfl rfl rfl) ?_
            all_goals refine oC (op_ext rfl rfl rfl) ?_
            all_goals refine oC (op_ext rfl rfl rfl) ?_
            all_goals refine oC (op_st ty66 rfl rfl (Conv.of rfl) rfl) ?_
            all_goals refine oC (op_st ty78 rfl rfl (Conv.of rfl) rfl) ?_
            all_goals refine oC (oA rfl (Conv.of rfl) rfl) ?_
            all_goals refine oN ?_
            refine aT ?_
            repeat first | refine rS ?_ | refine rB ?_
            refine finN (.cons (.rc ty66 rfl rfl) (.cons (.rc ty78 rfl rfl) (.cons (.v rfl (Conv.of rfl)) .nil))) rfl rfl ?_
            rw [hall, hs, hb]; rfl
          · refine aW ?_
            all_goals refine aR ?_
            all_goals refine oC (oP rfl rfl rfl (by omega)) ?_
            all_goals refine oC (oM rfl (Conv.of rfl) rfl) ?_
            all_goals refine oN ?_
            repeat first | refine nS ?_ | refine nB ?_
            exact ⟨n_ - 1, _, by omega, ⟨k + 1, by omega, by rw [hall, hs, hb]; rfl, rfl⟩, Le.mk rfl (tlb rfl rfl rfl (tlb rfl rfl rfl (tlb rfl rfl rfl (tle rfl (rfl) rfl (tle rfl (rfl) rfl (tle rfl (rfl) rfl (tle rfl (rfl) rfl (tle rfl (rfl) rfl (tle rfl (rfl) rfl (tle rfl (rfl) rfl tln)))))))))) (olk rfl (by exact bC) (olk rfl (by exact bC) (olk rfl (by exact bC) oln))) noS⟩
        · refine aE ?_
          repeat refine ex_seq ?_
          refine eB ?_
          have hk : m.seen.length ≤ k := by simpa using h
          all_goals refine aS (aR ?_)
          all_goals refine oC (oD ty66 rfl rfl rfl) ?_
          all_goals refine oC (op_build (.nil _) z78 rfl pl78 rfl) ?_
          all_goals refine oC (op_st ty66 rfl rfl (Conv.of rfl) rfl) ?_
          all_goals refine oC (op_st ty78 rfl rfl (Conv.of rfl) rfl) ?_
          all_goals refine oC (oA rfl (Conv.of rfl) rfl) ?_
          all_goals refine oN ?_
          refine aT ?_
          repeat first | refine rS ?_ | refine rB ?_
          refine finN (.cons (.rc ty66 rfl rfl) (.cons (.rc ty78 rfl rfl) (.cons (.v rfl (Conv.of rfl)) .nil))) rfl rfl ?_
          rw [hall, drop_end hk]; rfl
end Go.Proofs.YtgfoeiieopnlaaaGreatDoor

/- Worlds. -/
set_option linter.unusedVariables false
set_option linter.unusedSimpArgs false
namespace Go.Proofs.YtgfoeiieopnlaaaGreatDoor
open Go Go.Wt
theorem send_ct (w : Wrld) (v : Vote) (hl : Gd w.log) (hv : v.chain.length ≤ 1000000) : CtO Tryz.prog 74 [.box 0 (IsLens.whole WrldA), .v v] (wo w) (.tup []) (wo (sendF w v)) := by
  refine Ct.intro Tryz.func74 rfl rfl ?_
  all_goals refine aS (aR ?_)
  all_goals refine oC (op_box (o := 2) ty78 rfl (Conv.of rfl) rfl rfl) ?_
  all_goals refine oN ?_
  refine aST (s' := mkSt 28 [(0, .box 0 (IsLens.whole WrldA)), (3, .box 2 (IsLens.whole Vote)), (18, .v (!decide (v ∈ w.log) && decide (w.log.length < 80)))] [(0, .cell (wA w)), (1, .arr w.nodes), (2, .cell v)]) ?_ ?_
  · all_goals refine dS ?_
    all_goals refine dC (oM rfl (Conv.of rfl) rfl) ?_
    all_goals refine dC (oNB rfl rfl) ?_
    all_goals refine dC (oF f38_2_WrldA rfl rfl) ?_
    all_goals refine dC (oD ty36 rfl rfl rfl) ?_
    all_goals refine dC (oD ty78 rfl rfl rfl) ?_
    all_goals refine dC (oL fb111 (.cons rfl (Conv.of rfl) (.cons rfl (Conv.of rfl) (.nil _))) (has_ct _ _) (aK rfl rfl (aK rfl rfl aK0)) rfl rfl) ?_
    all_goals refine dC (op_not rfl rfl) ?_
    all_goals refine dC (oM rfl (Conv.of rfl) rfl) ?_
    all_goals refine dr_split (t := 11) rfl (fun h => ?_) (fun h => ?_)
    all_goals first | refine dC (gF rfl rfl rfl rfl rfl) ?_ | refine dC (gN rfl rfl rfl (oM rfl (Conv.of rfl) rfl)) ?_
    all_goals first | refine dC (gF rfl rfl rfl rfl rfl) ?_ | refine dC (gN rfl rfl rfl (oNB rfl rfl)) ?_
    all_goals first | refine dC (gF rfl rfl rfl rfl rfl) ?_ | refine dC (gN rfl rfl rfl (oF f38_2_WrldA rfl rfl)) ?_
    all_goals first | refine dC (gF rfl rfl rfl rfl rfl) ?_ | refine dC (gN rfl rfl rfl (oD ty36 rfl rfl rfl)) ?_
    all_goals first | refine dC (gF rfl rfl rfl rfl rfl) ?_ | refine dC (gN rfl rfl rfl (oE sl36 rfl rfl)) ?_
    all_goals first | refine dC (gF rfl rfl rfl rfl rfl) ?_ | refine dC (gN rfl rfl rfl (oLt rfl rfl rfl)) ?_
    all_goals refine dC (oQ rfl rfl rfl rfl) ?_
    all_goals refine dr_nil mixed rfl ?_
    all_goals exact Le.mk rfl (tlb rfl rfl rfl (tlb rfl rfl rfl (tle rfl (by (simp_all; try omega)) rfl tln))) (olk rfl (by exact obOkW rfl) (olk rfl (by exact bA) (olk rfl (by exact bC) oln))) (hU (a := wo w) rfl)
  refine aC rfl (fun h => ?_) (fun h => ?_)
  · all_goals refine dS ?_
    all_goals refine dC (oM rfl (Conv.of rfl) rfl) ?_
    all_goals refine dC (oM rfl (Conv.of rfl) rfl) ?_
    all_goals refine dC (oNB rfl rfl) ?_
    all_goals refine dC (oF f38_2_WrldA rfl rfl) ?_
    all_goals refine dC (oD ty36 rfl rfl rfl) ?_
    all_goals refine dC (oD ty78 rfl rfl rfl) ?_
    all_goals refine dC (oL fb112 (.cons rfl (Conv.of rfl) (.cons rfl (Conv.of rfl) (.nil _))) (with_ct _ _ hl.l' hv) (aK rfl rfl (aK rfl rfl aK0)) rfl rfl) ?_
    all_goals refine dC (oNB rfl rfl) ?_
    all_goals refine dC (oF f38_2_WrldA rfl rfl) ?_
    all_goals refine dC (op_st ty36 rfl rfl (Conv.cl) rfl) ?_
    all_goals refine dr_nil mixed rfl ?_
    refine finO (wo (sendF w v)) .nil rfl (fun o ho => by cases ho) ?_ (hK rfl) rfl
    simp only [sendF, h, if_true]
    exact (olk rfl (obOkW rfl) (olk rfl bA oln))
  · refine aW ?_
    refine finO (wo (sendF w v)) .nil rfl (fun o ho => by cases ho) ?_ (hK rfl) rfl
    simp only [sendF, h]
    exact (olk rfl (obOkW rfl) (olk rfl bA oln))
theorem honest_ct (w : Wrld) (id : Int) (h4 : w.nodes.length = 4) : CtO Tryz.prog 72 [.box 0 (IsLens.whole WrldA), .v id] (wo w) (if honestB w id then .elm 1 (id - 1).toNat (IsLens.whole Nod) else .nilp) (wo w) := by
  refine Ct.intro Tryz.func72 rfl rfl ?_
  all_goals refine aS (aR ?_)
  all_goals refine oC (oA rfl (Conv.of rfl) rfl) ?_
  all_goals refine oN ?_
  refine aS (aST (s' := mkSt 31 [(0, .box 0 (IsLens.whole WrldA)), (1, .v id), (23, .v (!honestB w id))] [(0, .cell (wA w)), (1, .arr w.nodes)]) ?_ ?_)
  · all_goals refine aR ?_
    all_goals refine oC (oM rfl (Conv.of rfl) rfl) ?_
    all_goals refine oC (oL fb49 (.cons rfl (Conv.of rfl) (.nil _)) (nodeIdOk_ct _) (aK rfl rfl aK0) rfl rfl) ?_
    all_goals refine oC (op_not rfl rfl) ?_
    all_goals refine oC (oM rfl (Conv.of rfl) rfl) ?_
    all_goals refine g_split (t := 8) rfl (fun h => ?_) (fun h => ?_)
    all_goals first | refine oC (gF rfl rfl rfl rfl rfl) ?_ | refine oC (gN rfl rfl rfl (oM rfl (Conv.of rfl) rfl)) ?_
    all_goals first | refine oC (gF rfl rfl rfl rfl rfl) ?_ | refine oC (gN rfl rfl rfl (oM rfl (Conv.of rfl) rfl)) ?_
    all_goals first | refine oC (gF rfl rfl rfl rfl rfl) ?_ | refine oC (gN rfl rfl rfl (oNB rfl rfl)) ?_
    all_goals first | refine oC (gF rfl rfl rfl rfl rfl) ?_ | refine oC (gN rfl rfl rfl (oF f38_3_WrldA rfl rfl)) ?_
    all_goals first | refine oC (gF rfl rfl rfl rfl rfl) ?_ | refine oC (gN rfl rfl rfl (oD ty3 rfl rfl rfl)) ?_
    all_goals first | refine oC (gF rfl rfl rfl rfl rfl) ?_ | refine oC (gN rfl rfl rfl (op_eql rfl rfl rfl)) ?_
    all_goals refine oC (oQ rfl rfl rfl rfl) ?_
    all_goals refine oC (oM rfl (Conv.of rfl) rfl) ?_
    all_goals first | refine g_lit (t := 16) (b := true) rfl ?_ | refine g_split (t := 16) rfl (fun h => ?_) (fun h => ?_)
    all_goals first | refine oC (gF rfl rfl rfl rfl rfl) ?_ | refine oC (gN rfl rfl rfl (oM rfl (Conv.of rfl) rfl)) ?_
    all_goals first | refine oC (gF rfl rfl rfl rfl rfl) ?_ | refine oC (gN rfl rfl rfl (oNB rfl rfl)) ?_
    all_goals first | refine oC (gF rfl rfl rfl rfl rfl) ?_ | refine oC (gN rfl rfl rfl (oF f38_2_WrldA rfl rfl)) ?_
    all_goals first | refine oC (gF rfl rfl rfl rfl rfl) ?_ | refine oC (gN rfl rfl rfl (oD ty36 rfl rfl rfl)) ?_
    all_goals first | refine oC (gF rfl rfl rfl rfl rfl) ?_ | refine oC (gN rfl rfl rfl (oE sl36 rfl rfl)) ?_
    all_goals first | refine oC (gF rfl rfl rfl rfl rfl) ?_ | refine oC (gN rfl rfl rfl (op_geq rfl rfl rfl)) ?_
    all_goals refine oC (oQ rfl rfl rfl rfl) ?_
    all_goals refine oN ?_
    all_goals exact Le.mk rfl (tlb rfl rfl rfl (tle rfl (rfl) rfl (tle rfl (by (simp_all [honestB]; try (rw [Bool.eq_iff_iff]; simp; try omega))) rfl tln))) (olk rfl (by exact obOkW rfl) (olk rfl (by exact bA) oln)) (hU (a := wo w) rfl)
  refine aC rfl (fun h => ?_) (fun h => ?_)
  · all_goals refine aS (aR ?_)
    all_goals refine oC (oA rfl (Conv.of rfl) rfl) ?_
    all_goals refine oN ?_
    refine aT ?_
    repeat first | refine rS ?_ | refine rB ?_
    rw [not_t h]
    exact ⟨_, _, res1E (wo w) rfl rfl rfl (olk rfl (obOkW rfl) (olk rfl bA oln)) (hK rfl), rfl, rfl⟩
  · have h' := not_f h
    have hid : 1 ≤ id ∧ id ≤ 4 := by simp only [honestB, Bool.and_eq_true] at h'; simpa [within] using h'.1.1
    refine aW ?_
    all_goals refine aS (aR ?_)
    all_goals refine oC (oM rfl (Conv.of rfl) rfl) ?_
    all_goals refine oC (oNB rfl rfl) ?_
    all_goals refine oC (oF f38_1_WrldA rfl rfl) ?_
    all_goals refine oC (oD ty35_NRef rfl rfl rfl) ?_
    all_goals refine oC (oM rfl (Conv.of rfl) rfl) ?_
    all_goals refine oC (op_sub rfl rfl rfl (by omega)) ?_
    all_goals refine oC (op_ixA sl35 rfl rfl rfl rfl ⟨by omega, by omega⟩) ?_
    all_goals refine oC (oA rfl (Conv.of rfl) rfl) ?_
    all_goals refine oN ?_
    refine aT ?_
    repeat first | refine rS ?_ | refine rB ?_
    rw [h']
    exact ⟨_, _, res1E (wo w) rfl rfl rfl (olk rfl (obOkW rfl) (olk rfl bA oln)) (hK rfl), rfl, rfl⟩
theorem tick_ct (w : Wrld) (hw : Fine w) : CtO Tryz.prog 39 [.box 0 (IsLens.whole WrldA)] (wo w) (.tup []) (wo (tickF w)) := by
  have hep := hw.ep
  have h4 := hw.four
  refine Ct.intro Tryz.func39 rfl rfl ?_
  refine aS (aR ?_)
  refine oC (oM rfl (Conv.of rfl) rfl) ?_
  refine oC (oM rfl (Conv.of rfl) rfl) ?_
  refine oC (oNB rfl rfl) ?_
  refine oC (oF f38_0_WrldA rfl rfl) ?_
  refine oC (oD ty3 rfl rfl rfl) ?_
  refine oC (oP rfl rfl rfl (by ((try simp only [wA]); omega))) ?_
  refine oC (op_min rfl rfl rfl) ?_
  refine oC (oNB rfl rfl) ?_
  refine oC (oF f38_0_WrldA rfl rfl) ?_
  refine oC (op_st ty3 rfl rfl (Conv.of rfl) rfl) ?_
  refine oN ?_
  refine aS (aR ?_)
  refine oC (oM rfl (Conv.of rfl) rfl) ?_
  refine oC (oNB rfl rfl) ?_
  refine oC (oF f38_1_WrldA rfl rfl) ?_
  refine oC (oD ty35_NRef rfl rfl rfl) ?_
  refine oC (oEA sl35 rfl rfl rfl) ?_
  refine oC (oM rfl (Conv.of rfl) rfl) ?_
  refine oN ?_
  refine aB ?_
  refine awp_loop' (fun n s => ∃ (k : Nat), ∃ (hn : n + k = 4), s = mkSt 36 [(0, .box 0 (IsLens.whole WrldA)), (16, .v (NRef.ref 1)), (17, .v (4 : Int)), (18, .v (k : Int))] [(0, .cell (wA (tickF w))), (1, .arr ((w.nodes.take k).map (fun n => enterF n (min (w.epoch + 1) 30)) ++ w.nodes.drop k))]) (4) ⟨0, by omega, rfl⟩ (Le.mk rfl (tlb rfl rfl rfl (tlb rfl rfl rfl (tle rfl (by (rw [h4]; rfl)) rfl (tle rfl (rfl) rfl tln)))) (olk rfl (by exact obOkW rfl) (olk (by rfl) (by exact bA) oln)) (hU (a := wo w) rfl)) ?_
  rintro n s ⟨k, hn, rfl⟩
  have hlen : ((w.nodes.take k).map (fun n => enterF n (min (w.epoch + 1) 30)) ++ w.nodes.drop k).length = 4 := by simp; omega
  refine aS (aR ?_)
  refine oC (oLt rfl rfl rfl) ?_
  refine oN ?_
  refine aS (aC rfl (fun h => ?_) (fun h => ?_))
  · have hlt : k < 4 := by simp at h; omega
    have hx : w.nodes[k]? = some w.nodes[k] := List.getElem?_eq_getElem (by omega)
    have hx' : ((w.nodes.take k).map (fun n => enterF n (min (w.epoch + 1) 30)) ++ w.nodes.drop k)[(k : Int).toNat]? = some w.nodes[k] := by
      rw [List.getElem?_append_right (by simp; omega)]
      simp [Nat.min_eq_left (show k ≤ w.nodes.length by omega), hx]
    have hne := hw.nep _ (List.getElem_mem (show k < w.nodes.length by omega))
    refine aW ?_
    refine aS (aB ?_)
    refine aS (aR ?_)
    refine oC (oM rfl (Conv.of rfl) rfl) ?_
    refine oC (op_ixA sl35 rfl rfl rfl rfl ⟨by omega, by omega⟩) ?_
    refine oC (op_lde ty66 rfl rfl hx' rfl) ?_
    refine oC (oX (o := 2) z66 rfl rfl) ?_
    refine oC (oA rfl (Conv.of rfl) rfl) ?_
    refine oC (op_st ty66 rfl rfl (Conv.of rfl) rfl) ?_
    refine oN ?_
    refine dS ?_
    refine dC (oM rfl (Conv.of rfl) rfl) ?_
    refine dC (oNB rfl rfl) ?_
    refine dC (oF f38_1_WrldA rfl rfl) ?_
    refine dC (oD ty35_NRef rfl rfl rfl) ?_
    refine dC (oM rfl (Conv.of rfl) rfl) ?_
    refine dC (oD ty66 rfl rfl rfl) ?_
    refine dC (oM rfl (Conv.of rfl) rfl) ?_
    refine dC (oNB rfl rfl) ?_
    refine dC (oF f38_0_WrldA rfl rfl) ?_
    refine dC (oD ty3 rfl rfl rfl) ?_
    refine dC (oL fb71 (.cons rfl (Conv.of rfl) (.cons rfl (Conv.of rfl) (.nil _))) (enter_ct _ _ hne) (aK rfl rfl (aK rfl rfl aK0)) rfl rfl) ?_
    refine dC (op_ixA sl35 rfl rfl rfl rfl ⟨by omega, by omega⟩) ?_
    refine dC (op_ste ty66 rfl rfl (Conv.of rfl) rfl hx') ?_
    refine dr_nil mixed rfl ?_
    refine aR ?_
    refine oC (oP rfl rfl rfl (by omega)) ?_
    refine oC (oM rfl (Conv.of rfl) rfl) ?_
    refine oN ?_
    repeat first | refine nS ?_ | refine nB ?_
    exact ⟨n - 1, _, by omega, ⟨k + 1, by omega, rfl⟩, Le.mk rfl (tlb rfl rfl rfl (tlb rfl rfl rfl (tle rfl (by rfl) rfl (tle rfl (rfl) rfl tln)))) (olk rfl (by exact obOkW rfl) (olk (by (exact congrArg Obj.arr (tick_step hx).symm)) (by exact bA) oln)) (hU (a := wo w) rfl)⟩
  · refine aE ?_
    repeat refine ex_seq ?_
    refine eB ?_
    have hk : k = 4 := by simp at h; omega
    subst hk
    refine finO (wo (tickF w)) .nil rfl (fun o ho => by cases ho) ?_ (hK rfl) rfl
    exact (olk rfl (obOkW rfl) (olk (congrArg Obj.arr (by rw [take_end (by omega), drop_end (by omega), List.append_nil]; rfl)) bA oln))
end Go.Proofs.YtgfoeiieopnlaaaGreatDoor

/- What happens in a world. -/
set_option linter.unusedVariables false
set_option linter.unusedSimpArgs false
namespace Go.Proofs.YtgfoeiieopnlaaaGreatDoor
open Go Go.Wt
set_option maxHeartbeats 1000000 in
theorem wpropose_ct (w : Wrld) (id : Int) (p : Pay) (hw : Fine w) : CtO Tryz.prog 40 [.box 0 (IsLens.whole WrldA), .v id, .v p] (wo w) (.tup []) (wo (wproposeF w id p)) := by
  have h4 := hw.four
  have hc := honest_ct w id h4
  refine Ct.intro Tryz.func40 rfl rfl ?_
  all_goals refine aS (aR ?_)
  all_goals refine oC (op_box (o := 2) ty61 rfl (Conv.of rfl) rfl rfl) ?_
  all_goals refine oN ?_
  cases hb : honestB w id with
  | false =>
    rw [hb] at hc
    all_goals refine aS (aR ?_)
    all_goals refine oC (oM rfl (Conv.of rfl) rfl) ?_
    all_goals refine oC (oM rfl (Conv.of rfl) rfl) ?_
    all_goals refine oC (oLO fb72 (.cons rfl (Conv.of rfl) (.cons rfl (Conv.of rfl) (.nil _))) (hc) (olsk rfl (olsk rfl ols0)) (kK (by exact obOkW rfl) (kK (by exact bA) k0)) (kK (by exact obOkW rfl) (kK (by exact bA) k0)) rfl (argOb rfl rfl rfl (argOk' rfl rfl argO0)) (fun o ho => by cases ho) rfl) ?_
    all_goals refine oC (oA rfl (Conv.of rfl) rfl) ?_
    all_goals refine oN ?_
    all_goals refine aS (aS (aR ?_))
    all_goals refine oC (oM rfl (Conv.of rfl) rfl) ?_
    all_goals refine oC (op_eqp_nil up107 rfl rfl) ?_
    all_goals refine oC (oM rfl (Conv.of rfl) rfl) ?_
    all_goals refine g_lit (t := 15) (b := true) rfl ?_
    all_goals refine oC (gF rfl rfl rfl rfl rfl) ?_
    all_goals refine oC (gF rfl rfl rfl rfl rfl) ?_
    all_goals refine oC (gF rfl rfl rfl rfl rfl) ?_
    all_goals refine oC (oQ rfl rfl rfl rfl) ?_
    all_goals refine oN ?_
    refine aC rfl (fun h => ?_) (fun h => absurd h (by decide))
    refine aT ?_
    repeat first | refine rS ?_ | refine rB ?_
    refine finO (wo (wproposeF w id p)) .nil rfl (fun o ho => by cases ho) ?_ (hK rfl) rfl
    simp only [wproposeF, hb, Bool.false_and]
    exact (olk rfl (obOkW rfl) (olk rfl bA oln))
  | true =>
    rw [hb] at hc
    simp only [if_true] at hc
    have hid : 1 ≤ id ∧ id ≤ 4 := by simp only [honestB, Bool.and_eq_true] at hb; simpa [within] using hb.1.1
    have hlt : (id - 1).toNat < w.nodes.length := by omega
    have hx : w.nodes[(id - 1).toNat]? = some w.nodes[(id - 1).toNat] := List.getElem?_eq_getElem hlt
    have hgd := hw.seen _ (List.getElem_mem hlt)
    generalize hnn : w.nodes[(id - 1).toNat] = n at hx hgd
    all_goals refine aS (aR ?_)
    all_goals refine oC (oM rfl (Conv.of rfl) rfl) ?_
    all_goals refine oC (oM rfl (Conv.of rfl) rfl) ?_
    all_goals refine oC (oLO fb72 (.cons rfl (Conv.of rfl) (.cons rfl (Conv.of rfl) (.nil _))) (hc) (olsk rfl (olsk rfl ols0)) (kK (by exact obOkW rfl) (kK (by exact bA) k0)) (kK (by exact obOkW rfl) (kK (by exact bA) k0)) rfl (argOb rfl rfl rfl (argOk' rfl rfl argO0)) (fun o ho => by simp [AV.refs] at ho; subst ho; rfl) rfl) ?_
    all_goals refine oC (oA rfl (Conv.of rfl) rfl) ?_
    all_goals refine oN ?_
    all_goals refine aS (aS (aR ?_))
    all_goals refine oC (oM rfl (Conv.of rfl) rfl) ?_
    all_goals refine oC (op_eqp_elm up107 rfl rfl) ?_
    all_goals refine oC (oM rfl (Conv.of rfl) rfl) ?_
    all_goals refine g_lit (t := 15) (b := false) rfl ?_
    all_goals refine oC (gN rfl rfl rfl (oD ty61 rfl rfl rfl)) ?_
    all_goals refine oC (gN rfl rfl rfl (oL fb47 (.cons rfl (Conv.of rfl) (.nil _)) (payOk_ct _) (aK rfl rfl aK0) rfl rfl)) ?_
    all_goals refine oC (gN rfl rfl rfl (op_not rfl rfl)) ?_
    all_goals refine oC (oQ rfl rfl rfl rfl) ?_
    all_goals refine oN ?_
    refine aC rfl (fun h => ?_) (fun h => ?_)
    · refine aT ?_
      repeat first | refine rS ?_ | refine rB ?_
      refine finO (wo (wproposeF w id p)) .nil rfl (fun o ho => by cases ho) ?_ (hK rfl) rfl
      simp only [wproposeF, hb, not_t h, Bool.and_false]
      exact (olk rfl (obOkW rfl) (olk rfl bA oln))
    · have hp := not_f h
      refine aW ?_
      all_goals refine aS (dS ?_)
      all_goals refine dC (oM rfl (Conv.of rfl) rfl) ?_
      all_goals refine dC (op_nilc_elm rfl rfl) ?_
      all_goals refine dC (op_lde ty66 rfl rfl hx rfl) ?_
      all_goals refine dC (oD ty61 rfl rfl rfl) ?_
      all_goals refine dC (oL fb73 (.cons rfl (Conv.of rfl) (.cons rfl (Conv.of rfl) (.nil _))) (npropose_ct n p hgd) (aK rfl rfl (aK rfl rfl aK0)) rfl rfl) ?_
      all_goals refine dC (oM rfl (Conv.of rfl) rfl) ?_
      all_goals refine dC (op_ext rfl rfl rfl) ?_
      all_goals refine dC (op_ext rfl rfl rfl) ?_
      all_goals refine dC (op_ext rfl rfl rfl) ?_
      all_goals refine dC (oX (o := 3) z66 rfl rfl) ?_
      all_goals refine dC (oX (o := 4) z78 rfl rfl) ?_
      all_goals refine dC (op_st ty66 rfl rfl (Conv.of rfl) rfl) ?_
      all_goals refine dC (op_st ty78 rfl rfl (Conv.of rfl) rfl) ?_
      all_goals refine dC (oA rfl (Conv.of rfl) rfl) ?_
      all_goals refine dr_nil mixed rfl ?_
      all_goals refine aS (aR ?_)
      all_goals refine oC (oM rfl (Conv.of rfl) rfl) ?_
      all_goals refine oC (oD ty66 rfl rfl rfl) ?_
      all_goals refine oC (op_nilc_elm rfl rfl) ?_
      all_goals refine oC (op_ste ty66 rfl rfl (Conv.of rfl) rfl hx) ?_
      all_goals refine oN ?_
      all_goals refine aS (aR ?_)
      all_goals refine oC (oM rfl (Conv.of rfl) rfl) ?_
      all_goals refine oN ?_
      refine aC rfl (fun h2 => ?_) (fun h2 => ?_)
      · all_goals refine aR ?_
        all_goals refine oC (oM rfl (Conv.of rfl) rfl) ?_
        all_goals refine oC (oD ty78 rfl rfl rfl) ?_
        all_goals refine oC (oLO fb74 (.cons rfl (Conv.of rfl) (.cons rfl (Conv.of rfl) (.nil _))) (send_ct { w with nodes := w.nodes.set (id - 1).toNat (proposeF n p).1 } _ hw.log (proposeF_len p hgd)) (olsk rfl (olsk rfl ols0)) (kK (by exact obOkW rfl) (kK (by exact bA) k0)) (kK (by exact obOkW rfl) (kK (by exact bA) k0)) rfl (argOb rfl rfl rfl (argOk' rfl rfl argO0)) (fun o ho => by cases ho) rfl) ?_
        all_goals refine oN ?_
        refine finO (wo (wproposeF w id p)) .nil rfl (fun o ho => by cases ho) ?_ (hK rfl) rfl
        have e : wproposeF w id p = sendF { w with nodes := w.nodes.set (id - 1).toNat (proposeF n p).1 } (proposeF n p).2.1 := by
          simp only [wproposeF, hb, hp, hx, Bool.and_self, if_true, putF]
          rw [if_pos (show (proposeF n p).2.2 = true from h2)]
        rw [e]
        exact (olk rfl (obOkW rfl) (olk rfl bA oln))
      · refine aW ?_
        refine finO (wo (wproposeF w id p)) .nil rfl (fun o ho => by cases ho) ?_ (hK rfl) rfl
        have e : wproposeF w id p = { w with nodes := w.nodes.set (id - 1).toNat (proposeF n p).1 } := by
          simp only [wproposeF, hb, hp, hx, Bool.and_self, if_true, putF]
          rw [if_neg (by rw [show (proposeF n p).2.2 = false from h2]; decide)]
        rw [e]
        exact (olk rfl (obOkW rfl) (olk rfl bA oln))
set_option maxHeartbeats 1000000 in
theorem wbring_ct (w : Wrld) (at_ id : Int) (hw : Fine w) : CtO Tryz.prog 43 [.box 0 (IsLens.whole WrldA), .v at_, .v id] (wo w) (.tup []) (wo (wbringF w at_ id)) := by
  have h4 := hw.four
  have hlg := hw.log.len
  have hc := honest_ct w id h4
  refine Ct.intro Tryz.func43 rfl rfl ?_
  cases hb : honestB w id with
  | false =>
    rw [hb] at hc
    all_goals refine aS (aR ?_)
    all_goals refine oC (oM rfl (Conv.of rfl) rfl) ?_
    all_goals refine oC (oM rfl (Conv.of rfl) rfl) ?_
    all_goals refine oC (oLO fb72 (.cons rfl (Conv.of rfl) (.cons rfl (Conv.of rfl) (.nil _))) (hc) (olsk rfl (olsk rfl ols0)) (kK (by exact obOkW rfl) (kK (by exact bA) k0)) (kK (by exact obOkW rfl) (kK (by exact bA) k0)) rfl (argOb rfl rfl rfl (argOk' rfl rfl argO0)) (fun o ho => by cases ho) rfl) ?_
    all_goals refine oC (oA rfl (Conv.of rfl) rfl) ?_
    all_goals refine oN ?_
    all_goals refine aS (aS (aR ?_))
    all_goals refine oC (oM rfl (Conv.of rfl) rfl) ?_
    all_goals refine oC (op_eqp_nil up107 rfl rfl) ?_
    all_goals refine oC (oM rfl (Conv.of rfl) rfl) ?_
    all_goals refine g_lit (t := 15) (b := true) rfl ?_
    all_goals refine oC (gF rfl rfl rfl rfl rfl) ?_
    all_goals refine oC (gF rfl rfl rfl rfl rfl) ?_
    all_goals refine oC (gF rfl rfl rfl rfl rfl) ?_
    all_goals refine oC (gF rfl rfl rfl rfl rfl) ?_
    all_goals refine oC (gF rfl rfl rfl rfl rfl) ?_
    all_goals refine oC (gF rfl rfl rfl rfl rfl) ?_
    all_goals refine oC (gF rfl rfl rfl rfl rfl) ?_
    all_goals refine oC (gF rfl rfl rfl rfl rfl) ?_
    all_goals refine oC (gF rfl rfl rfl rfl rfl) ?_
    all_goals refine oC (oQ rfl rfl rfl rfl) ?_
    all_goals refine oN ?_
    refine aC rfl (fun h => ?_) (fun h => absurd h (by decide))
    refine aT ?_
    repeat first | refine rS ?_ | refine rB ?_
    refine finO (wo (wbringF w at_ id)) .nil rfl (fun o ho => by cases ho) ?_ (hK rfl) rfl
    simp only [wbringF, hb, Bool.false_and]
    exact (olk rfl (obOkW rfl) (olk rfl bA oln))
  | true =>
    rw [hb] at hc
    simp only [if_true] at hc
    have hid : 1 ≤ id ∧ id ≤ 4 := by simp only [honestB, Bool.and_eq_true] at hb; simpa [within] using hb.1.1
    have hlt : (id - 1).toNat < w.nodes.length := by omega
    have hx : w.nodes[(id - 1).toNat]? = some w.nodes[(id - 1).toNat] := List.getElem?_eq_getElem hlt
    have hgd := hw.seen _ (List.getElem_mem hlt)
    generalize hnn : w.nodes[(id - 1).toNat] = n at hx hgd
    all_goals refine aS (aR ?_)
    all_goals refine oC (oM rfl (Conv.of rfl) rfl) ?_
    all_goals refine oC (oM rfl (Conv.of rfl) rfl) ?_
    all_goals refine oC (oLO fb72 (.cons rfl (Conv.of rfl) (.cons rfl (Conv.of rfl) (.nil _))) (hc) (olsk rfl (olsk rfl ols0)) (kK (by exact obOkW rfl) (kK (by exact bA) k0)) (kK (by exact obOkW rfl) (kK (by exact bA) k0)) rfl (argOb rfl rfl rfl (argOk' rfl rfl argO0)) (fun o ho => by simp [AV.refs] at ho; subst ho; rfl) rfl) ?_
    all_goals refine oC (oA rfl (Conv.of rfl) rfl) ?_
    all_goals refine oN ?_
    all_goals refine aS (aS (aR ?_))
    all_goals refine oC (oM rfl (Conv.of rfl) rfl) ?_
    all_goals refine oC (op_eqp_elm up107 rfl rfl) ?_
    all_goals refine oC (oM rfl (Conv.of rfl) rfl) ?_
    all_goals refine g_lit (t := 15) (b := false) rfl ?_
    all_goals refine oC (gN rfl rfl rfl (oM rfl (Conv.of rfl) rfl)) ?_
    all_goals refine oC (gN rfl rfl rfl (oM rfl (Conv.of rfl) rfl)) ?_
    all_goals refine oC (gN rfl rfl rfl (oNB rfl rfl)) ?_
    all_goals refine oC (gN rfl rfl rfl (oF f38_2_WrldA rfl rfl)) ?_
    all_goals refine oC (gN rfl rfl rfl (oD ty36 rfl rfl rfl)) ?_
    all_goals refine oC (gN rfl rfl rfl (oE sl36 rfl rfl)) ?_
    all_goals refine oC (gN rfl rfl rfl (op_sub rfl rfl rfl (by ((try simp only [wA]); omega)))) ?_
    all_goals refine oC (gN rfl rfl rfl (oL fb35 (.cons rfl (Conv.of rfl) (.cons rfl (Conv.of rfl) (.cons rfl (Conv.of rfl) (.nil _)))) (within_ct _ _ _) (aK rfl rfl (aK rfl rfl (aK rfl rfl aK0))) rfl rfl)) ?_
    all_goals refine oC (gN rfl rfl rfl (op_not rfl rfl)) ?_
    all_goals refine oC (oQ rfl rfl rfl rfl) ?_
    all_goals refine oN ?_
    refine aC rfl (fun h => ?_) (fun h => ?_)
    · refine aT ?_
      repeat first | refine rS ?_ | refine rB ?_
      refine finO (wo (wbringF w at_ id)) .nil rfl (fun o ho => by cases ho) ?_ (hK rfl) rfl
      have h' : within at_ 0 ((w.log.length : Int) - 1) = false := not_t h
      simp only [wbringF, hb, h', Bool.and_false]
      exact (olk rfl (obOkW rfl) (olk rfl bA oln))
    · have h' : within at_ 0 ((w.log.length : Int) - 1) = true := not_f h
      have hat : 0 ≤ at_ ∧ at_ ≤ (w.log.length : Int) - 1 := by simpa [within] using h'
      have hy : w.log[at_.toNat]? = some (w.log[at_.toNat]'(by omega)) := List.getElem?_eq_getElem (by omega)
      generalize (w.log[at_.toNat]'(by omega)) = v at hy
      refine aW ?_
      all_goals refine aS (dS ?_)
      all_goals refine dC (oM rfl (Conv.of rfl) rfl) ?_
      all_goals refine dC (op_nilc_elm rfl rfl) ?_
      all_goals refine dC (op_lde ty66 rfl rfl hx rfl) ?_
      all_goals refine dC (oM rfl (Conv.of rfl) rfl) ?_
      all_goals refine dC (oNB rfl rfl) ?_
      all_goals refine dC (oF f38_2_WrldA rfl rfl) ?_
      all_goals refine dC (oD ty36 rfl rfl rfl) ?_
      all_goals refine dC (oM rfl (Conv.of rfl) rfl) ?_
      all_goals refine dC (op_ix sl36 rfl rfl rfl hat.1 hy) ?_
      all_goals refine dC (oDR ty78 rfl rfl) ?_
      all_goals refine dC (oL fb76 (.cons rfl (Conv.of rfl) (.cons rfl (Conv.of rfl) (.nil _))) (nhear_ct n v hgd) (aK rfl rfl (aK rfl rfl aK0)) rfl rfl) ?_
      all_goals refine dC (oM rfl (Conv.of rfl) rfl) ?_
      all_goals refine dC (op_ext rfl rfl rfl) ?_
      all_goals refine dC (op_ext rfl rfl rfl) ?_
      all_goals refine dC (op_ext rfl rfl rfl) ?_
      all_goals refine dC (oX (o := 2) z66 rfl rfl) ?_
      all_goals refine dC (oX (o := 3) z78 rfl rfl) ?_
      all_goals refine dC (op_st ty66 rfl rfl (Conv.of rfl) rfl) ?_
      all_goals refine dC (op_st ty78 rfl rfl (Conv.of rfl) rfl) ?_
      all_goals refine dC (oA rfl (Conv.of rfl) rfl) ?_
      all_goals refine dr_nil mixed rfl ?_
      all_goals refine aS (aR ?_)
      all_goals refine oC (oM rfl (Conv.of rfl) rfl) ?_
      all_goals refine oC (oD ty66 rfl rfl rfl) ?_
      all_goals refine oC (op_nilc_elm rfl rfl) ?_
      all_goals refine oC (op_ste ty66 rfl rfl (Conv.of rfl) rfl hx) ?_
      all_goals refine oN ?_
      all_goals refine aS (aR ?_)
      all_goals refine oC (oM rfl (Conv.of rfl) rfl) ?_
      all_goals refine oN ?_
      refine aC rfl (fun h2 => ?_) (fun h2 => ?_)
      · all_goals refine aR ?_
        all_goals refine oC (oM rfl (Conv.of rfl) rfl) ?_
        all_goals refine oC (oD ty78 rfl rfl rfl) ?_
        all_goals refine oC (oLO fb74 (.cons rfl (Conv.of rfl) (.cons rfl (Conv.of rfl) (.nil _))) (send_ct { w with nodes := w.nodes.set (id - 1).toNat (hearF n v).1 } _ hw.log (hearF_len v hgd)) (olsk rfl (olsk rfl ols0)) (kK (by exact obOkW rfl) (kK (by exact bA) k0)) (kK (by exact obOkW rfl) (kK (by exact bA) k0)) rfl (argOb rfl rfl rfl (argOk' rfl rfl argO0)) (fun o ho => by cases ho) rfl) ?_
        all_goals refine oN ?_
        refine finO (wo (wbringF w at_ id)) .nil rfl (fun o ho => by cases ho) ?_ (hK rfl) rfl
        have e : wbringF w at_ id = sendF { w with nodes := w.nodes.set (id - 1).toNat (hearF n v).1 } (hearF n v).2.1 := by
          simp only [wbringF, hb, h', hx, hy, Bool.and_self, if_true, putF]
          rw [if_pos (show (hearF n v).2.2 = true from h2)]
        rw [e]
        exact (olk rfl (obOkW rfl) (olk rfl bA oln))
      · refine aW ?_
        refine finO (wo (wbringF w at_ id)) .nil rfl (fun o ho => by cases ho) ?_ (hK rfl) rfl
        have e : wbringF w at_ id = { w with nodes := w.nodes.set (id - 1).toNat (hearF n v).1 } := by
          simp only [wbringF, hb, h', hx, hy, Bool.and_self, if_true, putF]
          rw [if_neg (by rw [show (hearF n v).2.2 = false from h2]; decide)]
        rw [e]
        exact (olk rfl (obOkW rfl) (olk rfl bA oln))
set_option maxHeartbeats 1000000 in
theorem do_ct (w : Wrld) (e : Evt) (hw : Fine w) : CtO Tryz.prog 45 [.box 0 (IsLens.whole WrldA), .v e] (wo w) (.tup []) (wo (doF w e)) := by
  refine Ct.intro Tryz.func45 rfl rfl ?_
  all_goals refine aS (aR ?_)
  all_goals refine oC (op_box (o := 2) ty80 rfl (Conv.of rfl) rfl rfl) ?_
  all_goals refine oN ?_
  all_goals refine aS (aR ?_)
  all_goals refine oC (oF f80_0 rfl rfl) ?_
  all_goals refine oC (oD ty3 rfl rfl rfl) ?_
  all_goals refine oN ?_
  refine aB ?_
  all_goals refine aS (aR ?_)
  all_goals refine oC (op_eql rfl rfl rfl) ?_
  all_goals refine oC (oA rfl (Conv.of rfl) rfl) ?_
  all_goals refine oN ?_
  refine aC rfl (fun h1 => ?_) (fun h1 => ?_)
  · have k1 : e.kind = 1 := by simpa using h1
    all_goals refine aR ?_
    all_goals refine oC (oM rfl (Conv.of rfl) rfl) ?_
    all_goals refine oC (oLO fb39 (.cons rfl (Conv.of rfl) (.nil _)) (tick_ct w hw) (olsk rfl (olsk rfl ols0)) (kK (by exact obOkW rfl) (kK (by exact bA) k0)) (kK (by exact obOkW rfl) (kK (by exact bA) k0)) rfl (argOb rfl rfl rfl argO0) (fun o ho => by cases ho) rfl) ?_
    all_goals refine oN ?_
    refine finO (wo (doF w e)) .nil rfl (fun o ho => by cases ho) ?_ (hK rfl) rfl
    rw [doF, if_pos k1]
    exact (olk rfl (obOkW rfl) (olk rfl bA oln))
  · have k1 : ¬ e.kind = 1 := by simpa using h1
    all_goals refine aS (aR ?_)
    all_goals refine oC (op_eql rfl rfl rfl) ?_
    all_goals refine oC (oA rfl (Conv.of rfl) rfl) ?_
    all_goals refine oN ?_
    refine aC rfl (fun h2 => ?_) (fun h2 => ?_)
    · have k2 : e.kind = 2 := by simpa using h2
      all_goals refine aR ?_
      all_goals refine oC (oM rfl (Conv.of rfl) rfl) ?_
      all_goals refine oC (oF f80_1 rfl rfl) ?_
      all_goals refine oC (oD ty3 rfl rfl rfl) ?_
      all_goals refine oC (oF f80_3 rfl rfl) ?_
      all_goals refine oC (oD ty61 rfl rfl rfl) ?_
      all_goals refine oC (oLO fb40 (.cons rfl (Conv.of rfl) (.cons rfl (Conv.of rfl) (.cons rfl (Conv.of rfl) (.nil _)))) (wpropose_ct w _ _ hw) (olsk rfl (olsk rfl ols0)) (kK (by exact obOkW rfl) (kK (by exact bA) k0)) (kK (by exact obOkW rfl) (kK (by exact bA) k0)) rfl (argOb rfl rfl rfl (argOk' rfl rfl (argOk' rfl rfl argO0))) (fun o ho => by cases ho) rfl) ?_
      all_goals refine oN ?_
      refine finO (wo (doF w e)) .nil rfl (fun o ho => by cases ho) ?_ (hK rfl) rfl
      rw [doF, if_neg k1, if_pos k2]
      exact (olk rfl (obOkW rfl) (olk rfl bA oln))
    · have k2 : ¬ e.kind = 2 := by simpa using h2
      all_goals refine aS (aR ?_)
      all_goals refine oC (op_eql rfl rfl rfl) ?_
      all_goals refine oC (oA rfl (Conv.of rfl) rfl) ?_
      all_goals refine oN ?_
      refine aC rfl (fun h3 => ?_) (fun h3 => ?_)
      · have k3 : e.kind = 3 := by simpa using h3
        all_goals refine aR ?_
        all_goals refine oC (oM rfl (Conv.of rfl) rfl) ?_
        all_goals refine oC (oF f80_1 rfl rfl) ?_
        all_goals refine oC (oD ty3 rfl rfl rfl) ?_
        all_goals refine oC (oF f80_2 rfl rfl) ?_
        all_goals refine oC (oD ty3 rfl rfl rfl) ?_
        all_goals refine oC (oLO fb43 (.cons rfl (Conv.of rfl) (.cons rfl (Conv.of rfl) (.cons rfl (Conv.of rfl) (.nil _)))) (wbring_ct w _ _ hw) (olsk rfl (olsk rfl ols0)) (kK (by exact obOkW rfl) (kK (by exact bA) k0)) (kK (by exact obOkW rfl) (kK (by exact bA) k0)) rfl (argOb rfl rfl rfl (argOk' rfl rfl (argOk' rfl rfl argO0))) (fun o ho => by cases ho) rfl) ?_
        all_goals refine oN ?_
        refine finO (wo (doF w e)) .nil rfl (fun o ho => by cases ho) ?_ (hK rfl) rfl
        rw [doF, if_neg k1, if_neg k2, if_pos k3]
        exact (olk rfl (obOkW rfl) (olk rfl bA oln))
      · have k3 : ¬ e.kind = 3 := by simpa using h3
        all_goals refine aS (aR ?_)
        all_goals refine oC (op_eql rfl rfl rfl) ?_
        all_goals refine oC (oA rfl (Conv.of rfl) rfl) ?_
        all_goals refine oN ?_
        refine aC rfl (fun h4 => ?_) (fun h4 => ?_)
        · have k4 : e.kind = 4 := by simpa using h4
          refine aST (s' := mkSt 45 [(0, .box 0 (IsLens.whole WrldA)), (3, .box 2 (IsLens.whole Evt)), (40, .v (voteOk e.vote && decide (e.vote.by_ = w.bad)))] [(0, .cell (wA w)), (1, .arr w.nodes), (2, .cell e)]) ?_ ?_
          · all_goals refine dS ?_
            all_goals refine dC (oF f80_4 rfl rfl) ?_
            all_goals refine dC (oD ty78 rfl rfl rfl) ?_
            all_goals refine dC (oL fb77 (.cons rfl (Conv.of rfl) (.nil _)) (voteOk_ct _) (aK rfl rfl aK0) rfl rfl) ?_
            all_goals refine dC (oM rfl (Conv.of rfl) rfl) ?_
            all_goals refine dr_split (t := 31) rfl (fun h => ?_) (fun h => ?_)
            all_goals first | refine dC (gF rfl rfl rfl rfl rfl) ?_ | refine dC (gN rfl rfl rfl (oF f80_4 rfl rfl)) ?_
            all_goals first | refine dC (gF rfl rfl rfl rfl rfl) ?_ | refine dC (gN rfl rfl rfl (oF f78_0 rfl rfl)) ?_
            all_goals first | refine dC (gF rfl rfl rfl rfl rfl) ?_ | refine dC (gN rfl rfl rfl (oD ty3 rfl rfl rfl)) ?_
            all_goals first | refine dC (gF rfl rfl rfl rfl rfl) ?_ | refine dC (gN rfl rfl rfl (oM rfl (Conv.of rfl) rfl)) ?_
            all_goals first | refine dC (gF rfl rfl rfl rfl rfl) ?_ | refine dC (gN rfl rfl rfl (oNB rfl rfl)) ?_
            all_goals first | refine dC (gF rfl rfl rfl rfl rfl) ?_ | refine dC (gN rfl rfl rfl (oF f38_3_WrldA rfl rfl)) ?_
            all_goals first | refine dC (gF rfl rfl rfl rfl rfl) ?_ | refine dC (gN rfl rfl rfl (oD ty3 rfl rfl rfl)) ?_
            all_goals first | refine dC (gF rfl rfl rfl rfl rfl) ?_ | refine dC (gN rfl rfl rfl (op_eql rfl rfl rfl)) ?_
            all_goals refine dC (oQ rfl rfl rfl rfl) ?_
            all_goals refine dr_nil mixed rfl ?_
            all_goals exact Le.mk rfl (tlb rfl rfl rfl (tlb rfl rfl rfl (tle rfl (by (clear h1 h2 h3 h4; simp_all; try (rw [Bool.eq_iff_iff]; simp))) rfl tln))) (olk rfl (by exact obOkW rfl) (olk rfl (by exact bA) (olk rfl (by exact bC) oln))) (hU (a := wo w) rfl)
          refine aC rfl (fun h5 => ?_) (fun h5 => ?_)
          · have hvo : voteOk e.vote = true := by simp only [Bool.and_eq_true] at h5; exact h5.1
            all_goals refine aR ?_
            all_goals refine oC (oM rfl (Conv.of rfl) rfl) ?_
            all_goals refine oC (oF f80_4 rfl rfl) ?_
            all_goals refine oC (oD ty78 rfl rfl rfl) ?_
            all_goals refine oC (oLO fb74 (.cons rfl (Conv.of rfl) (.cons rfl (Conv.of rfl) (.nil _))) (send_ct w _ hw.log (voteOk_len hvo)) (olsk rfl (olsk rfl ols0)) (kK (by exact obOkW rfl) (kK (by exact bA) k0)) (kK (by exact obOkW rfl) (kK (by exact bA) k0)) rfl (argOb rfl rfl rfl (argOk' rfl rfl argO0)) (fun o ho => by cases ho) rfl) ?_
            all_goals refine oN ?_
            refine finO (wo (doF w e)) .nil rfl (fun o ho => by cases ho) ?_ (hK rfl) rfl
            rw [doF, if_neg k1, if_neg k2, if_neg k3, if_pos k4, h5, if_pos rfl]
            exact (olk rfl (obOkW rfl) (olk rfl bA oln))
          · refine aW ?_
            refine finO (wo (doF w e)) .nil rfl (fun o ho => by cases ho) ?_ (hK rfl) rfl
            rw [doF, if_neg k1, if_neg k2, if_neg k3, if_pos k4, h5, if_neg (by decide)]
            exact (olk rfl (obOkW rfl) (olk rfl bA oln))
        · have k4 : ¬ e.kind = 4 := by simpa using h4
          refine aW ?_
          refine finO (wo (doF w e)) .nil rfl (fun o ho => by cases ho) ?_ (hK rfl) rfl
          rw [doF, if_neg k1, if_neg k2, if_neg k3, if_neg k4]
          exact (olk rfl (obOkW rfl) (olk rfl bA oln))
end Go.Proofs.YtgfoeiieopnlaaaGreatDoor

/- Plays. -/
set_option linter.unusedVariables false
set_option linter.unusedSimpArgs false
namespace Go.Proofs.YtgfoeiieopnlaaaGreatDoor
open Go Go.Wt
theorem worldNewBad_ct (bad : Int) (hb : within bad 0 4 = false) : CtP Tryz.prog 21 [.v bad] (.tup [.v WrldA.zero, .v false]) := by
  refine Ct.intro Tryz.func21 rfl rfl ?_
  refine aS (aR ?_)
  refine oC (oX (o := 0) z38_WrldA rfl rfl) ?_
  refine oC (oA rfl (Conv.of rfl) rfl) ?_
  refine oN ?_
  refine aS (aS (aR ?_))
  refine oC (oM rfl (Conv.of rfl) rfl) ?_
  refine oC (oL fb35 (.cons rfl (Conv.of rfl) (.cons rfl (Conv.of rfl) (.cons rfl (Conv.of rfl) (.nil _)))) (within_ct _ _ _) (aK rfl rfl (aK rfl rfl (aK rfl rfl aK0))) rfl rfl) ?_
  refine oC (op_not rfl rfl) ?_
  refine oN ?_
  refine aC rfl (fun h => ?_) (fun h => absurd (not_f h) (by rw [hb]; decide))
  refine aS (aR ?_)
  refine oC (op_build (.nil _) z38_WrldA rfl pl38 rfl) ?_
  refine oC (op_st ty38_WrldA rfl rfl (Conv.of rfl) rfl) ?_
  refine oC (oA rfl (Conv.of rfl) rfl) ?_
  refine oN ?_
  refine aT ?_
  repeat first | refine rS ?_ | refine rB ?_
  exact finN (.cons (.rc ty38_WrldA rfl rfl) (.cons (.v rfl (Conv.of rfl)) .nil)) rfl rfl rfl
theorem worldNew_ct (bad : Int) (hb : within bad 0 4 = true) : Ct Tryz.prog 21 [.v bad] noObj (fun r1 h1 => r1 = .tup [.v (wA (newW bad)), .v true] ∧ h1 = obs [(1, .arr (newW bad).nodes)]) := by
  refine Ct.intro Tryz.func21 rfl rfl ?_
  refine aS (aR ?_)
  refine oC (oX (o := 5) z38_WrldA rfl rfl) ?_
  refine oC (oA rfl (Conv.of rfl) rfl) ?_
  refine oN ?_
  refine aS (aS (aR ?_))
  refine oC (oM rfl (Conv.of rfl) rfl) ?_
  refine oC (oL fb35 (.cons rfl (Conv.of rfl) (.cons rfl (Conv.of rfl) (.cons rfl (Conv.of rfl) (.nil _)))) (within_ct _ _ _) (aK rfl rfl (aK rfl rfl (aK rfl rfl aK0))) rfl rfl) ?_
  refine oC (op_not rfl rfl) ?_
  refine oN ?_
  refine aC rfl (fun h => absurd (not_t h) (by rw [hb]; decide)) (fun h => ?_)
  refine aW ?_
  refine aS (aR ?_)
  refine oC (oM rfl (Conv.of rfl) rfl) ?_
  refine oC (op_mka (o := 11) sl35 z66 rfl rfl (by decide) (by decide) (by decide) rfl rfl) ?_
  refine oC (op_build (.cons f38_3_WrldA rfl (Conv.of rfl) (.cons f38_1_WrldA rfl (Conv.nr) (.nil _))) z38_WrldA rfl pl38 rfl) ?_
  refine oC (oX (o := 0) z38_WrldA rfl rfl) ?_
  refine oC (op_st ty38_WrldA rfl rfl (Conv.of rfl) rfl) ?_
  refine oN ?_
  refine aS (aS (aR ?_))
  refine oC (oA rfl (Conv.of rfl) rfl) ?_
  refine oN ?_
  refine aB ?_
  refine awp_loop' (fun n s => (n = 4 ∧ s = mkSt 25 [(2, .box 5 (IsLens.whole WrldA)), (4, .box 0 (IsLens.whole WrldA)), (5, .v (1 : Int))] [(0, .cell (WrldA.mk 0 (.ref 11) [] bad)), (5, .cell WrldA.zero), (11, .arr ([] : List Nod))]) ∨ (n = 3 ∧ s = mkSt 25 [(2, .box 5 (IsLens.whole WrldA)), (4, .box 0 (IsLens.whole WrldA)), (5, .v (2 : Int))] [(0, .cell (WrldA.mk 0 (.ref 12) [] bad)), (5, .cell WrldA.zero), (12, .arr ([newN 1] : List Nod))]) ∨ (n = 2 ∧ s = mkSt 25 [(2, .box 5 (IsLens.whole WrldA)), (4, .box 0 (IsLens.whole WrldA)), (5, .v (3 : Int))] [(0, .cell (WrldA.mk 0 (.ref 13) [] bad)), (5, .cell WrldA.zero), (13, .arr ([newN 1, newN 2] : List Nod))]) ∨ (n = 1 ∧ s = mkSt 25 [(2, .box 5 (IsLens.whole WrldA)), (4, .box 0 (IsLens.whole WrldA)), (5, .v (4 : Int))] [(0, .cell (WrldA.mk 0 (.ref 14) [] bad)), (5, .cell WrldA.zero), (14, .arr ([newN 1, newN 2, newN 3] : List Nod))]) ∨ (n = 0 ∧ s = mkSt 25 [(2, .box 5 (IsLens.whole WrldA)), (4, .box 0 (IsLens.whole WrldA)), (5, .v (5 : Int))] [(0, .cell (WrldA.mk 0 (.ref 1) [] bad)), (5, .cell WrldA.zero), (1, .arr ([newN 1, newN 2, newN 3, newN 4] : List Nod))])) 4 (.inl ⟨rfl, rfl⟩) (Le.mk rfl (tlb rfl rfl rfl (tlb rfl rfl rfl (tle rfl (rfl) rfl tln))) (olk rfl (by exact obOkW rfl) (olk rfl (by exact obOkW0) (olk rfl (by exact bA) oln))) noS) ?_
  rintro n s (⟨rfl, rfl⟩|⟨rfl, rfl⟩|⟨rfl, rfl⟩|⟨rfl, rfl⟩|⟨rfl, rfl⟩)
  · refine aS (aS (aR ?_))
    refine oC (oM rfl (Conv.of rfl) rfl) ?_
    refine oC (op_leq rfl rfl rfl) ?_
    refine oN ?_
    refine aC rfl (fun h => ?_) (fun h => absurd h (by decide))
    refine aW ?_
    refine aS (aB ?_)
    refine aR ?_
    refine oC (oF f38_1_WrldA rfl rfl) ?_
    refine oC (oD ty35_NRef rfl rfl rfl) ?_
    refine oC (oM rfl (Conv.of rfl) rfl) ?_
    refine oC (op_build (.cons f66_0 rfl (Conv.of rfl) (.nil _)) z66 rfl pl66 rfl) ?_
    refine oC (op_bsl sl35 z66 (.cons rfl (Conv.of rfl) (.nil _)) rfl (by decide) rfl) ?_
    refine oC (op_apA (o' := 12) sl35 z66 ul35 rfl rfl rfl rfl (by simp) (by decide) (by decide) rfl) ?_
    refine oC (oF f38_1_WrldA rfl rfl) ?_
    refine oC (op_st ty35_NRef rfl rfl (Conv.of rfl) rfl) ?_
    refine oN ?_
    refine aR ?_
    refine oC (oM rfl (Conv.of rfl) rfl) ?_
    refine oC (oP rfl rfl rfl (by omega)) ?_
    refine oC (oA rfl (Conv.of rfl) rfl) ?_
    refine oN ?_
    repeat first | refine nS ?_ | refine nB ?_
    exact ⟨3, _, by decide, .inr (.inl ⟨rfl, rfl⟩), Le.mk rfl (tlb rfl rfl rfl (tlb rfl rfl rfl (tle rfl (rfl) rfl tln))) (olk rfl (by exact obOkW rfl) (olk rfl (by exact obOkW0) (olk rfl (by exact bA) oln))) noS⟩
  · refine aS (aS (aR ?_))
    refine oC (oM rfl (Conv.of rfl) rfl) ?_
    refine oC (op_leq rfl rfl rfl) ?_
    refine oN ?_
    refine aC rfl (fun h => ?_) (fun h => absurd h (by decide))
    refine aW ?_
    refine aS (aB ?_)
    refine aR ?_
    refine oC (oF f38_1_WrldA rfl rfl) ?_
    refine oC (oD ty35_NRef rfl rfl rfl) ?_
    refine oC (oM rfl (Conv.of rfl) rfl) ?_
    refine oC (op_build (.cons f66_0 rfl (Conv.of rfl) (.nil _)) z66 rfl pl66 rfl) ?_
    refine oC (op_bsl sl35 z66 (.cons rfl (Conv.of rfl) (.nil _)) rfl (by decide) rfl) ?_
    refine oC (op_apA (o' := 13) sl35 z66 ul35 rfl rfl rfl rfl (by simp) (by decide) (by decide) rfl) ?_
    refine oC (oF f38_1_WrldA rfl rfl) ?_
    refine oC (op_st ty35_NRef rfl rfl (Conv.of rfl) rfl) ?_
    refine oN ?_
    refine aR ?_
    refine oC (oM rfl (Conv.of rfl) rfl) ?_
    refine oC (oP rfl rfl rfl (by omega)) ?_
    refine oC (oA rfl (Conv.of rfl) rfl) ?_
    refine oN ?_
    repeat first | refine nS ?_ | refine nB ?_
    exact ⟨2, _, by decide, .inr (.inr (.inl ⟨rfl, rfl⟩)), Le.mk rfl (tlb rfl rfl rfl (tlb rfl rfl rfl (tle rfl (rfl) rfl tln))) (olk rfl (by exact obOkW rfl) (olk rfl (by exact obOkW0) (olk rfl (by exact bA) oln))) noS⟩
  · refine aS (aS (aR ?_))
    refine oC (oM rfl (Conv.of rfl) rfl) ?_
    refine oC (op_leq rfl rfl rfl) ?_
    refine oN ?_
    refine aC rfl (fun h => ?_) (fun h => absurd h (by decide))
    refine aW ?_
    refine aS (aB ?_)
    refine aR ?_
    refine oC (oF f38_1_WrldA rfl rfl) ?_
    refine oC (oD ty35_NRef rfl rfl rfl) ?_
    refine oC (oM rfl (Conv.of rfl) rfl) ?_
    refine oC (op_build (.cons f66_0 rfl (Conv.of rfl) (.nil _)) z66 rfl pl66 rfl) ?_
    refine oC (op_bsl sl35 z66 (.cons rfl (Conv.of rfl) (.nil _)) rfl (by decide) rfl) ?_
    refine oC (op_apA (o' := 14) sl35 z66 ul35 rfl rfl rfl rfl (by simp) (by decide) (by decide) rfl) ?_
    refine oC (oF f38_1_WrldA rfl rfl) ?_
    refine oC (op_st ty35_NRef rfl rfl (Conv.of rfl) rfl) ?_
    refine oN ?_
    refine aR ?_
    refine oC (oM rfl (Conv.of rfl) rfl) ?_
    refine oC (oP rfl rfl rfl (by omega)) ?_
    refine oC (oA rfl (Conv.of rfl) rfl) ?_
    refine oN ?_
    repeat first | refine nS ?_ | refine nB ?_
    exact ⟨1, _, by decide, .inr (.inr (.inr (.inl ⟨rfl, rfl⟩))), Le.mk rfl (tlb rfl rfl rfl (tlb rfl rfl rfl (tle rfl (rfl) rfl tln))) (olk rfl (by exact obOkW rfl) (olk rfl (by exact obOkW0) (olk rfl (by exact bA) oln))) noS⟩
  · refine aS (aS (aR ?_))
    refine oC (oM rfl (Conv.of rfl) rfl) ?_
    refine oC (op_leq rfl rfl rfl) ?_
    refine oN ?_
    refine aC rfl (fun h => ?_) (fun h => absurd h (by decide))
    refine aW ?_
    refine aS (aB ?_)
    refine aR ?_
    refine oC (oF f38_1_WrldA rfl rfl) ?_
    refine oC (oD ty35_NRef rfl rfl rfl) ?_
    refine oC (oM rfl (Conv.of rfl) rfl) ?_
    refine oC (op_build (.cons f66_0 rfl (Conv.of rfl) (.nil _)) z66 rfl pl66 rfl) ?_
    refine oC (op_bsl sl35 z66 (.cons rfl (Conv.of rfl) (.nil _)) rfl (by decide) rfl) ?_
    refine oC (op_apA (o' := 1) sl35 z66 ul35 rfl rfl rfl rfl (by simp) (by decide) (by decide) rfl) ?_
    refine oC (oF f38_1_WrldA rfl rfl) ?_
    refine oC (op_st ty35_NRef rfl rfl (Conv.of rfl) rfl) ?_
    refine oN ?_
    refine aR ?_
    refine oC (oM rfl (Conv.of rfl) rfl) ?_
    refine oC (oP rfl rfl rfl (by omega)) ?_
    refine oC (oA rfl (Conv.of rfl) rfl) ?_
    refine oN ?_
    repeat first | refine nS ?_ | refine nB ?_
    exact ⟨0, _, by decide, .inr (.inr (.inr (.inr (⟨rfl, rfl⟩)))), Le.mk rfl (tlb rfl rfl rfl (tlb rfl rfl rfl (tle rfl (rfl) rfl tln))) (olk rfl (by exact obOkW rfl) (olk rfl (by exact obOkW0) (olk rfl (by exact bA) oln))) noS⟩
  · refine aS (aS (aR ?_))
    refine oC (oM rfl (Conv.of rfl) rfl) ?_
    refine oC (op_leq rfl rfl rfl) ?_
    refine oN ?_
    refine aC rfl (fun h => absurd h (by decide)) (fun h => ?_)
    refine aE ?_
    repeat refine ex_seq ?_
    refine eB ?_
    refine aS (aR ?_)
    refine oC (oD ty38_WrldA rfl rfl rfl) ?_
    refine oC (op_st ty38_WrldA rfl rfl (Conv.of rfl) rfl) ?_
    refine oC (oA rfl (Conv.of rfl) rfl) ?_
    refine oN ?_
    refine aT ?_
    repeat first | refine rS ?_ | refine rB ?_
    refine ⟨_, _, resN (ol := [(1, .arr (newW bad).nodes)]) (.cons (.rc ty38_WrldA rfl rfl) (.cons (.v rfl (Conv.of rfl)) .nil)) rfl (fun o ho => ?_) (olk rfl bA oln) noS, rfl, rfl⟩
    have : o = 1 := by simpa using (show o ∈ [1] from ho)
    subst this; rfl
end Go.Proofs.YtgfoeiieopnlaaaGreatDoor

/- Worlds copied. -/
set_option linter.unusedVariables false
set_option linter.unusedSimpArgs false
namespace Go.Proofs.YtgfoeiieopnlaaaGreatDoor
open Go Go.Wt
end Go.Proofs.YtgfoeiieopnlaaaGreatDoor

/- A play. -/
set_option linter.unusedVariables false
set_option linter.unusedSimpArgs false
namespace Go.Proofs.YtgfoeiieopnlaaaGreatDoor
open Go Go.Wt
end Go.Proofs.YtgfoeiieopnlaaaGreatDoor

/- The reference: payments, chains, votes. -/
set_option linter.unusedVariables false
set_option linter.unusedSimpArgs false
namespace Go.Proofs.YtgfoeiieopnlaaaGreatDoor
open Go Go.Wt
theorem l6In_ct (n lo hi : Int) : CtP Tryz.prog 54 [.v n, .v lo, .v hi] (.v (within n lo hi)) := by
  refine Ct.intro Tryz.func54 rfl rfl ?_
  all_goals refine aS (aR ?_)
  all_goals refine oC (oA rfl (Conv.of rfl) rfl) ?_
  all_goals refine oN ?_
  all_goals refine aS (aR ?_)
  all_goals refine oC (oM rfl (Conv.of rfl) rfl) ?_
  all_goals refine oC (oM rfl (Conv.of rfl) rfl) ?_
  all_goals refine oC (op_geq rfl rfl rfl) ?_
  all_goals refine oC (oM rfl (Conv.of rfl) rfl) ?_
  all_goals refine g_split (t := 10) rfl (fun h => ?_) (fun h => ?_)
  all_goals first | refine oC (gF rfl rfl rfl rfl rfl) ?_ | refine oC (gN rfl rfl rfl (oM rfl (Conv.of rfl) rfl)) ?_
  all_goals first | refine oC (gF rfl rfl rfl rfl rfl) ?_ | refine oC (gN rfl rfl rfl (oM rfl (Conv.of rfl) rfl)) ?_
  all_goals first | refine oC (gF rfl rfl rfl rfl rfl) ?_ | refine oC (gN rfl rfl rfl (op_leq rfl rfl rfl)) ?_
  all_goals refine oC (oQ rfl rfl rfl rfl) ?_
  all_goals refine oC (oA rfl (Conv.of rfl) rfl) ?_
  all_goals refine oN ?_
  all_goals refine aT ?_
  all_goals refine finP (.v rfl (Conv.of rfl)) rfl ?_
  all_goals (simp only [FV.av, within]; first | (rw [h]; rfl) | simp_all)
theorem sPayOk_ct (p : Pay) : CtP Tryz.prog 65 [.v p] (.v (payOk p)) := by
  refine Ct.intro Tryz.func65 rfl rfl ?_
  all_goals refine aS (aR ?_)
  all_goals refine oC (op_box (o := 0) ty61 rfl (Conv.of rfl) rfl rfl) ?_
  all_goals refine oC (oA rfl (Conv.of rfl) rfl) ?_
  all_goals refine oN ?_
  all_goals refine aS (aR ?_)
  all_goals refine oC (oF f61_0 rfl rfl) ?_
  all_goals refine oC (oD ty3 rfl rfl rfl) ?_
  all_goals refine oC (oL fb54 (.cons rfl (Conv.of rfl) (.cons rfl (Conv.of rfl) (.cons rfl (Conv.of rfl) (.nil _)))) (l6In_ct _ _ _) (aK rfl rfl (aK rfl rfl (aK rfl rfl aK0))) rfl rfl) ?_
  all_goals refine oC (oM rfl (Conv.of rfl) rfl) ?_
  all_goals refine g_split (t := 6) rfl (fun h => ?_) (fun h => ?_)
  all_goals first | refine oC (gF rfl rfl rfl rfl rfl) ?_ | refine oC (gN rfl rfl rfl (oF f61_1 rfl rfl)) ?_
  all_goals first | refine oC (gF rfl rfl rfl rfl rfl) ?_ | refine oC (gN rfl rfl rfl (oD ty3 rfl rfl rfl)) ?_
  all_goals first | refine oC (gF rfl rfl rfl rfl rfl) ?_ | refine oC (gN rfl rfl rfl (oL fb54 (.cons rfl (Conv.of rfl) (.cons rfl (Conv.of rfl) (.cons rfl (Conv.of rfl) (.nil _)))) (l6In_ct _ _ _) (aK rfl rfl (aK rfl rfl (aK rfl rfl aK0))) rfl rfl)) ?_
  all_goals refine oC (oQ rfl rfl rfl rfl) ?_
  all_goals refine oC (oM rfl (Conv.of rfl) rfl) ?_
  all_goals first | refine g_lit (t := 11) (b := false) rfl ?_ | refine g_split (t := 11) rfl (fun h => ?_) (fun h => ?_)
  all_goals first | refine oC (gF rfl rfl rfl rfl rfl) ?_ | refine oC (gN rfl rfl rfl (oF f61_0 rfl rfl)) ?_
  all_goals first | refine oC (gF rfl rfl rfl rfl rfl) ?_ | refine oC (gN rfl rfl rfl (oD ty3 rfl rfl rfl)) ?_
  all_goals first | refine oC (gF rfl rfl rfl rfl rfl) ?_ | refine oC (gN rfl rfl rfl (oF f61_1 rfl rfl)) ?_
  all_goals first | refine oC (gF rfl rfl rfl rfl rfl) ?_ | refine oC (gN rfl rfl rfl (oD ty3 rfl rfl rfl)) ?_
  all_goals first | refine oC (gF rfl rfl rfl rfl rfl) ?_ | refine oC (gN rfl rfl rfl (op_neq rfl rfl rfl)) ?_
  all_goals refine oC (oQ rfl rfl rfl rfl) ?_
  all_goals refine oC (oM rfl (Conv.of rfl) rfl) ?_
  all_goals first | refine g_lit (t := 18) (b := false) rfl ?_ | refine g_split (t := 18) rfl (fun h => ?_) (fun h => ?_)
  all_goals first | refine oC (gF rfl rfl rfl rfl rfl) ?_ | refine oC (gN rfl rfl rfl (oF f61_2 rfl rfl)) ?_
  all_goals first | refine oC (gF rfl rfl rfl rfl rfl) ?_ | refine oC (gN rfl rfl rfl (oD ty3 rfl rfl rfl)) ?_
  all_goals first | refine oC (gF rfl rfl rfl rfl rfl) ?_ | refine oC (gN rfl rfl rfl (oL fb54 (.cons rfl (Conv.of rfl) (.cons rfl (Conv.of rfl) (.cons rfl (Conv.of rfl) (.nil _)))) (l6In_ct _ _ _) (aK rfl rfl (aK rfl rfl (aK rfl rfl aK0))) rfl rfl)) ?_
  all_goals refine oC (oQ rfl rfl rfl rfl) ?_
  all_goals refine oC (oA rfl (Conv.of rfl) rfl) ?_
  all_goals refine oN ?_
  all_goals refine aT ?_
  all_goals refine finP (.v rfl (Conv.of rfl)) rfl ?_
  all_goals simp_all [FV.av, payOk]
set_option maxHeartbeats 1000000 in
theorem sChainOk_ct (c : List Itm) : CtP Tryz.prog 126 [.v c] (.v (chainOk c)) := by
  refine Ct.intro Tryz.func126 rfl rfl ?_
  refine awp_bigL 0 rfl (fun hB => ?_)
  all_goals refine aS (aR ?_)
  all_goals refine oC (oA rfl (Conv.of rfl) rfl) ?_
  all_goals refine oN ?_
  all_goals refine aS (aS (aR ?_))
  all_goals refine oC (oA rfl (Conv.of rfl) rfl) ?_
  all_goals refine oN ?_
  refine aB ?_
  refine awp_loop' (fun n s => ∃ (k : Nat), ∃ (hn : n + k = c.length), ∃ (hall : ∀ (j : Nat) (x : Itm), j < k → c[j]? = some x → itemOk c j x = true), s = mkSt 47 [(0, .v c), (3, .v (k : Int))] []) (c.length) ⟨0, by omega, fun j x h => by omega, rfl⟩ (Le.mk rfl (tle rfl (rfl) rfl (tle rfl (rfl) rfl tln)) oln noS) ?_
  rintro n s ⟨k, hn, hall, rfl⟩
  all_goals refine aS (aS (aR ?_))
  all_goals refine oC (oM rfl (Conv.of rfl) rfl) ?_
  all_goals refine oC (oM rfl (Conv.of rfl) rfl) ?_
  all_goals refine oC (oE sl72 rfl rfl) ?_
  all_goals refine oC (oLt rfl rfl rfl) ?_
  all_goals refine oN ?_
  refine aC rfl (fun h => ?_) (fun h => ?_)
  · have hlt : k < c.length := by simpa using h
    have hx : c[k]? = some c[k] := List.getElem?_eq_getElem hlt
    refine aW ?_
    refine aS (aB ?_)
    have hprev : decide ((0 : Int) < k) = true → 0 ≤ (k : Int) - 1 ∧ c[((k : Int) - 1).toNat]? = some (c[k - 1]'(by omega)) := by
      intro h0
      have h1 : 0 < k := by simpa using h0
      have e : ((k : Int) - 1).toNat = k - 1 := by omega
      exact ⟨by omega, by rw [e]; exact List.getElem?_eq_getElem (by omega)⟩
    refine aST (s' := mkSt 47 [(0, .v c), (3, .v (k : Int)), (43, .v (!itemOk c k c[k]))] []) ?_ ?_
    · all_goals refine dS ?_
      all_goals refine dC (oM rfl (Conv.of rfl) rfl) ?_
      all_goals refine dC (oM rfl (Conv.of rfl) rfl) ?_
      all_goals refine dC (op_ix sl72 rfl rfl rfl (by omega) hx) ?_
      all_goals refine dC (oFR f74_0 rfl rfl) ?_
      all_goals refine dC (oDR ty3 rfl rfl) ?_
      all_goals refine dC (oL fb54 (.cons rfl (Conv.of rfl) (.cons rfl (Conv.of rfl) (.cons rfl (Conv.of rfl) (.nil _)))) (l6In_ct _ _ _) (aK rfl rfl (aK rfl rfl (aK rfl rfl aK0))) rfl rfl) ?_
      all_goals refine dC (op_not rfl rfl) ?_
      all_goals refine dC (oM rfl (Conv.of rfl) rfl) ?_
      all_goals refine dr_split (t := 17) rfl (fun h => ?_) (fun h => ?_)
      all_goals first | refine dC (gF rfl rfl rfl rfl rfl) ?_ | refine dC (gN rfl rfl rfl (oM rfl (Conv.of rfl) rfl)) ?_
      all_goals first | refine dC (gF rfl rfl rfl rfl rfl) ?_ | refine dC (gN rfl rfl rfl (oM rfl (Conv.of rfl) rfl)) ?_
      all_goals first | refine dC (gF rfl rfl rfl rfl rfl) ?_ | refine dC (gN rfl rfl rfl (op_ix sl72 rfl rfl rfl (by omega) hx)) ?_
      all_goals first | refine dC (gF rfl rfl rfl rfl rfl) ?_ | refine dC (gN rfl rfl rfl (oFR f74_1 rfl rfl)) ?_
      all_goals first | refine dC (gF rfl rfl rfl rfl rfl) ?_ | refine dC (gN rfl rfl rfl (oDR ty61 rfl rfl)) ?_
      all_goals first | refine dC (gF rfl rfl rfl rfl rfl) ?_ | refine dC (gN rfl rfl rfl (oL fb65 (.cons rfl (Conv.of rfl) (.nil _)) (sPayOk_ct _) (aK rfl rfl aK0) rfl rfl)) ?_
      all_goals first | refine dC (gF rfl rfl rfl rfl rfl) ?_ | refine dC (gN rfl rfl rfl (op_not rfl rfl)) ?_
      all_goals refine dC (oQ rfl rfl rfl rfl) ?_
      all_goals refine dC (oM rfl (Conv.of rfl) rfl) ?_
      all_goals first | refine dr_lit (t := 26) (b := true) rfl ?_ | refine dr_split (t := 26) rfl (fun h => ?_) (fun h => ?_)
      all_goals first | refine dC (gF rfl rfl rfl rfl rfl) ?_ | refine dC (gN rfl rfl rfl (oM rfl (Conv.of rfl) rfl)) ?_
      all_goals first | refine dC (gF rfl rfl rfl rfl rfl) ?_ | refine dC (gN rfl rfl rfl (op_gtr rfl rfl rfl)) ?_
      all_goals first | refine dC (gF rfl rfl rfl rfl rfl) ?_ | refine dC (gN rfl rfl rfl (oM rfl (Conv.of rfl) rfl)) ?_
      all_goals first | refine dr_ulit (t := 29) rfl ?_ | refine dr_split (t := 29) rfl (fun h => ?_) (fun h => ?_)
      all_goals first | refine dC (gF rfl rfl rfl rfl rfl) ?_ | refine dC (g_und rfl rfl rfl) ?_ | refine dC (gN rfl rfl rfl (oM rfl (Conv.of rfl) rfl)) ?_
      all_goals first | refine dC (gF rfl rfl rfl rfl rfl) ?_ | refine dC (g_und rfl rfl rfl) ?_ | refine dC (gN rfl rfl rfl (oM rfl (Conv.of rfl) rfl)) ?_
      all_goals first | refine dC (gF rfl rfl rfl rfl rfl) ?_ | refine dC (g_und rfl rfl rfl) ?_ | refine dC (gN rfl rfl rfl (op_sub rfl rfl rfl (by omega))) ?_
      all_goals first | refine dC (gF rfl rfl rfl rfl rfl) ?_ | refine dC (g_und rfl rfl rfl) ?_ | refine dC (gN rfl rfl rfl (op_ix sl72 rfl rfl rfl (hprev h).1 (hprev h).2)) ?_
      all_goals first | refine dC (gF rfl rfl rfl rfl rfl) ?_ | refine dC (g_und rfl rfl rfl) ?_ | refine dC (gN rfl rfl rfl (oFR f74_0 rfl rfl)) ?_
      all_goals first | refine dC (gF rfl rfl rfl rfl rfl) ?_ | refine dC (g_und rfl rfl rfl) ?_ | refine dC (gN rfl rfl rfl (oDR ty3 rfl rfl)) ?_
      all_goals first | refine dC (gF rfl rfl rfl rfl rfl) ?_ | refine dC (g_und rfl rfl rfl) ?_ | refine dC (gN rfl rfl rfl (oM rfl (Conv.of rfl) rfl)) ?_
      all_goals first | refine dC (gF rfl rfl rfl rfl rfl) ?_ | refine dC (g_und rfl rfl rfl) ?_ | refine dC (gN rfl rfl rfl (oM rfl (Conv.of rfl) rfl)) ?_
      all_goals first | refine dC (gF rfl rfl rfl rfl rfl) ?_ | refine dC (g_und rfl rfl rfl) ?_ | refine dC (gN rfl rfl rfl (op_ix sl72 rfl rfl rfl (by omega) hx)) ?_
      all_goals first | refine dC (gF rfl rfl rfl rfl rfl) ?_ | refine dC (g_und rfl rfl rfl) ?_ | refine dC (gN rfl rfl rfl (oFR f74_0 rfl rfl)) ?_
      all_goals first | refine dC (gF rfl rfl rfl rfl rfl) ?_ | refine dC (g_und rfl rfl rfl) ?_ | refine dC (gN rfl rfl rfl (oDR ty3 rfl rfl)) ?_
      all_goals first | refine dC (gF rfl rfl rfl rfl rfl) ?_ | refine dC (g_und rfl rfl rfl) ?_ | refine dC (gN rfl rfl rfl (op_geq rfl rfl rfl)) ?_
      all_goals first | refine dC (gF rfl rfl rfl rfl rfl) ?_ | refine dC (gN rfl rfl rfl (oQ rfl rfl rfl rfl)) ?_
      all_goals refine dC (oQ rfl rfl rfl rfl) ?_
      all_goals refine dr_nil mixed rfl ?_
      all_goals exact Le.mk rfl (tle rfl (rfl) rfl (tle rfl (rfl) rfl (tle rfl (by (clear hall; simp_all [itemOk_nat, List.getElem?_eq_getElem (show k - 1 < c.length by omega)])) rfl tln))) oln noS
    refine aC rfl (fun h => ?_) (fun h => ?_)
    · all_goals refine aS (aR ?_)
      all_goals refine oC (oA rfl (Conv.of rfl) rfl) ?_
      all_goals refine oN ?_
      refine aT ?_
      repeat first | refine rS ?_ | refine rB ?_
      refine finP (.v rfl (Conv.of rfl)) rfl ?_
      show AV.v false = _
      rw [chainOk_bad hx (not_t h)]
    · refine aW ?_
      all_goals refine aR ?_
      all_goals refine oC (oM rfl (Conv.of rfl) rfl) ?_
      all_goals refine oC (oP rfl rfl rfl (by omega)) ?_
      all_goals refine oC (oA rfl (Conv.of rfl) rfl) ?_
      all_goals refine oN ?_
      repeat first | refine nS ?_ | refine nB ?_
      exact ⟨n - 1, _, by omega, ⟨k + 1, by omega, fun j x hj hjx => chainOk_more hx hall (not_f h) hj hjx, rfl⟩, Le.mk rfl (tle rfl (rfl) rfl (tle rfl (rfl) rfl tln)) oln noS⟩
  · refine aE ?_
    repeat refine ex_seq ?_
    refine eB ?_
    all_goals refine aS (aR ?_)
    all_goals refine oC (oM rfl (Conv.of rfl) rfl) ?_
    all_goals refine oC (oE sl72 rfl rfl) ?_
    all_goals refine oC (op_leq rfl rfl rfl) ?_
    all_goals refine oC (oA rfl (Conv.of rfl) rfl) ?_
    all_goals refine oN ?_
    refine aT ?_
    repeat first | refine rS ?_ | refine rB ?_
    refine finP (.v rfl (Conv.of rfl)) rfl ?_
    show AV.v _ = _
    rw [chainOk_good (k := k) (by simpa using h) hall]
theorem l3Leader_ct (n : Int) (hn : -1000 ≤ n ∧ n ≤ 1000000) : CtP Tryz.prog 98 [.v n] (.v (leadS n)) := by
  have ht1 := Int.tmod_lt_of_pos (n - 1) (show (0 : Int) < 4 by omega)
  have ht2 : -4 < (n - 1).tmod 4 := Int.lt_tmod_of_pos (n - 1) (show (0 : Int) < 4 by omega)
  refine Ct.intro Tryz.func98 rfl rfl ?_
  refine aS (aR ?_)
  refine oC (oA rfl (Conv.of rfl) rfl) ?_
  refine oN ?_
  refine aS (aR ?_)
  refine oC (oM rfl (Conv.of rfl) rfl) ?_
  refine oC (op_sub rfl rfl rfl (by omega)) ?_
  refine oC (op_rem rfl rfl rfl (by decide)) ?_
  refine oC (oP rfl rfl rfl (by omega)) ?_
  refine oC (oA rfl (Conv.of rfl) rfl) ?_
  refine oN ?_
  refine aT ?_
  repeat first | refine rS ?_ | refine rB ?_
  exact finP (.v rfl (Conv.of rfl)) rfl rfl
theorem l1In_ct (a b : List Itm) : CtP Tryz.prog 159 [.v a, .v b] (.v (inS a b)) := by
  refine Ct.intro Tryz.func159 rfl rfl ?_
  refine awp_bigL 0 rfl (fun hB => ?_)
  refine aS (aR ?_)
  refine oC (oA rfl (Conv.of rfl) rfl) ?_
  refine oN ?_
  refine aS (aS (aR ?_))
  refine oC (oM rfl (Conv.of rfl) rfl) ?_
  refine oC (oE sl72 rfl rfl) ?_
  refine oC (oM rfl (Conv.of rfl) rfl) ?_
  refine oC (oE sl72 rfl rfl) ?_
  refine oC (op_gtr rfl rfl rfl) ?_
  refine oN ?_
  refine aC rfl (fun h => ?_) (fun h => ?_)
  · refine aS (aR ?_)
    refine oC (oA rfl (Conv.of rfl) rfl) ?_
    refine oN ?_
    refine aT ?_
    repeat first | refine rS ?_ | refine rB ?_
    refine finP (.v rfl (Conv.of rfl)) rfl ?_
    have : ¬ a.length ≤ b.length := by simp at h; omega
    simp [FV.av, inS, this]
  · have hlen : a.length ≤ b.length := by simp at h; omega
    refine aW ?_
    refine aS (aS (aR ?_))
    refine oC (oA rfl (Conv.of rfl) rfl) ?_
    refine oN ?_
    refine aB ?_
    refine awp_loop' (fun n s => ∃ (k : Nat), ∃ (hn : n + k = a.length), ∃ (hall : decide (a.take k = b.take k) = true), s = mkSt 26 [(0, .v a), (1, .v b), (5, .v (k : Int))] []) (a.length) ⟨0, by omega, rfl, rfl⟩ (Le.mk rfl (tle rfl (rfl) rfl (tle rfl (rfl) rfl (tle rfl (rfl) rfl tln))) oln noS) ?_
    rintro n s ⟨k, hn, hall, rfl⟩
    refine aS (aS (aR ?_))
    refine oC (oM rfl (Conv.of rfl) rfl) ?_
    refine oC (oM rfl (Conv.of rfl) rfl) ?_
    refine oC (oE sl72 rfl rfl) ?_
    refine oC (oLt rfl rfl rfl) ?_
    refine oN ?_
    refine aC rfl (fun h => ?_) (fun h => ?_)
    · have hlt : k < a.length := by simpa using h
      have hx : a[k]? = some a[k] := List.getElem?_eq_getElem hlt
      have hy : b[k]? = some (b[k]'(by omega)) := List.getElem?_eq_getElem (by omega)
      have hs := take_eq_at hx hy
      refine aW ?_
      refine aS (aB ?_)
      refine aS (dS ?_)
      refine dC (oM rfl (Conv.of rfl) rfl) ?_
      refine dC (oM rfl (Conv.of rfl) rfl) ?_
      refine dC (op_ix sl72 rfl rfl rfl (by omega) hx) ?_
      refine dC (oDR ty74 rfl rfl) ?_
      refine dC (oM rfl (Conv.of rfl) rfl) ?_
      refine dC (oM rfl (Conv.of rfl) rfl) ?_
      refine dC (op_ix sl72 rfl rfl rfl (by omega) hy) ?_
      refine dC (oDR ty74 rfl rfl) ?_
      refine dC (op_nea weq74 rfl rfl rfl) ?_
      refine dr_nil mixed rfl ?_
      refine aC rfl (fun h => ?_) (fun h => ?_)
      · refine aS (aR ?_)
        refine oC (oA rfl (Conv.of rfl) rfl) ?_
        refine oN ?_
        refine aT ?_
        repeat first | refine rS ?_ | refine rB ?_
        refine finP (.v rfl (Conv.of rfl)) rfl ?_
        have h' : ¬ a[k] = b[k] := by simpa using h
        have : ¬ a = b.take a.length := by
          intro e
          have e2 : a[k]? = (b.take a.length)[k]? := congrArg (fun l : List Itm => l[k]?) e
          rw [List.getElem?_take, if_pos hlt, hy, hx] at e2
          exact h' (Option.some.inj e2)
        simp [FV.av, inS, this]
      · refine aW ?_
        have h' : decide (a[k] = b[k]) = true := by simpa using h
        refine aR ?_
        refine oC (oM rfl (Conv.of rfl) rfl) ?_
        refine oC (oP rfl rfl rfl (by omega)) ?_
        refine oC (oA rfl (Conv.of rfl) rfl) ?_
        refine oN ?_
        repeat first | refine nS ?_ | refine nB ?_
        exact ⟨n - 1, _, by omega, ⟨k + 1, by omega, by rw [hs, hall, h']; rfl, rfl⟩, Le.mk rfl (tle rfl (rfl) rfl (tle rfl (rfl) rfl (tle rfl (rfl) rfl tln))) oln noS⟩
    · refine aE ?_
      repeat refine ex_seq ?_
      refine eB ?_
      have hk : k = a.length := by simp at h; omega
      subst hk
      refine aS (aR ?_)
      refine oC (oA rfl (Conv.of rfl) rfl) ?_
      refine oN ?_
      refine aT ?_
      repeat first | refine rS ?_ | refine rB ?_
      refine finP (.v rfl (Conv.of rfl)) rfl ?_
      rw [List.take_length] at hall
      have : a = b.take a.length := by simpa using hall
      simp [FV.av, inS, hlen, ← this]
theorem inS_same {a b : List Itm} (h : a.length = b.length) : inS a b = decide (a = b) := by
  unfold inS
  rw [show b.take a.length = b by rw [h, List.take_length]]
  simp [h]
theorem l3Same_ct (a b : List Itm) : CtP Tryz.prog 136 [.v a, .v b] (.v (decide (a = b))) := by
  refine Ct.intro Tryz.func136 rfl rfl ?_
  all_goals refine aS (aR ?_)
  all_goals refine oC (oA rfl (Conv.of rfl) rfl) ?_
  all_goals refine oN ?_
  all_goals refine aS (aR ?_)
  all_goals refine oC (oM rfl (Conv.of rfl) rfl) ?_
  all_goals refine oC (oE sl72 rfl rfl) ?_
  all_goals refine oC (oM rfl (Conv.of rfl) rfl) ?_
  all_goals refine oC (oE sl72 rfl rfl) ?_
  all_goals refine oC (op_eql rfl rfl rfl) ?_
  all_goals refine oC (oM rfl (Conv.of rfl) rfl) ?_
  all_goals refine g_split (t := 10) rfl (fun h => ?_) (fun h => ?_)
  all_goals first | refine oC (gF rfl rfl rfl rfl rfl) ?_ | refine oC (gN rfl rfl rfl (oM rfl (Conv.of rfl) rfl)) ?_
  all_goals first | refine oC (gF rfl rfl rfl rfl rfl) ?_ | refine oC (gN rfl rfl rfl (oM rfl (Conv.of rfl) rfl)) ?_
  all_goals first | refine oC (gF rfl rfl rfl rfl rfl) ?_ | refine oC (gN rfl rfl rfl (oL fb159 (.cons rfl (Conv.of rfl) (.cons rfl (Conv.of rfl) (.nil _))) (l1In_ct _ _) (aK rfl rfl (aK rfl rfl aK0)) rfl rfl)) ?_
  all_goals refine oC (oQ rfl rfl rfl rfl) ?_
  all_goals refine oC (oA rfl (Conv.of rfl) rfl) ?_
  all_goals refine oN ?_
  all_goals refine aT ?_
  all_goals refine finP (.v rfl (Conv.of rfl)) rfl ?_
  · have hl : a.length = b.length := by simp at h; omega
    simp only [FV.av]; congr 1
    exact inS_same hl
  · have hl : ¬ a.length = b.length := by simp at h; omega
    have : ¬ a = b := fun e => hl (by rw [e])
    simp [FV.av, this]
theorem l1Copy_ct (c : List Itm) (hc : c.length ≤ 1000000) : CtP Tryz.prog 103 [.v c] (.v (OList.mk c true)) := by
  refine Ct.intro Tryz.func103 rfl rfl ?_
  refine aS (aR ?_)
  refine oC (oA rfl (Conv.of rfl) rfl) ?_
  refine oN ?_
  refine aS (aR ?_)
  refine oC (op_bsl sl72 z74 (.nil _) rfl (by decide) rfl) ?_
  refine oC (oM rfl (Conv.of rfl) rfl) ?_
  refine oC (op_app sl72 z74 ul72 rfl rfl rfl (by (simp; omega)) (by (simp; omega)) rfl rfl) ?_
  refine oC (op_asl rfl rfl rfl rfl) ?_
  refine oN ?_
  refine aT ?_
  repeat first | refine rS ?_ | refine rB ?_
  exact finM rfl rfl (by simp)
theorem l3VoteCopy_ct (v : Vote) (hv : v.chain.length ≤ 1000000) : CtP Tryz.prog 156 [.v v] (.v v) := by
  refine Ct.intro Tryz.func156 rfl rfl ?_
  refine aS (aR ?_)
  refine oC (op_box (o := 0) ty78 rfl (Conv.of rfl) rfl rfl) ?_
  refine oC (oX (o := 1) z78 rfl rfl) ?_
  refine oN ?_
  refine aS (aR ?_)
  refine oC (oF f78_1 rfl rfl) ?_
  refine oC (oD ty72 rfl rfl rfl) ?_
  refine oC (oL fb103 (.cons rfl (Conv.of rfl) (.nil _)) (l1Copy_ct _ hv) (aK rfl rfl aK0) rfl rfl) ?_
  refine oC (oF f78_1 rfl rfl) ?_
  refine oC (op_st ty72 rfl rfl (Conv.ol) rfl) ?_
  refine oN ?_
  refine aS (aR ?_)
  refine oC (oD ty78 rfl rfl rfl) ?_
  refine oC (op_st ty78 rfl rfl (Conv.of rfl) rfl) ?_
  refine oN ?_
  refine aT ?_
  repeat first | refine rS ?_ | refine rB ?_
  exact finP (.rc ty78 rfl rfl) rfl rfl
theorem l3Vote_ct (v : Vote) : CtP Tryz.prog 95 [.v v] (.v (voteOk v)) := by
  refine Ct.intro Tryz.func95 rfl rfl ?_
  all_goals refine aS (aR ?_)
  all_goals refine oC (op_box (o := 0) ty78 rfl (Conv.of rfl) rfl rfl) ?_
  all_goals refine oC (oA rfl (Conv.of rfl) rfl) ?_
  all_goals refine oN ?_
  all_goals refine aS (aR ?_)
  all_goals refine oC (oF f78_0 rfl rfl) ?_
  all_goals refine oC (oD ty3 rfl rfl rfl) ?_
  all_goals refine oC (oL fb54 (.cons rfl (Conv.of rfl) (.cons rfl (Conv.of rfl) (.cons rfl (Conv.of rfl) (.nil _)))) (l6In_ct _ _ _) (aK rfl rfl (aK rfl rfl (aK rfl rfl aK0))) rfl rfl) ?_
  all_goals refine oC (oM rfl (Conv.of rfl) rfl) ?_
  all_goals refine g_split (t := 6) rfl (fun h => ?_) (fun h => ?_)
  all_goals first | refine oC (gF rfl rfl rfl rfl rfl) ?_ | refine oC (gN rfl rfl rfl (oF f78_1 rfl rfl)) ?_
  all_goals first | refine oC (gF rfl rfl rfl rfl rfl) ?_ | refine oC (gN rfl rfl rfl (oD ty72 rfl rfl rfl)) ?_
  all_goals first | refine oC (gF rfl rfl rfl rfl rfl) ?_ | refine oC (gN rfl rfl rfl (oL fb126 (.cons rfl (Conv.of rfl) (.nil _)) (sChainOk_ct _) (aK rfl rfl aK0) rfl rfl)) ?_
  all_goals refine oC (oQ rfl rfl rfl rfl) ?_
  all_goals refine oC (oM rfl (Conv.of rfl) rfl) ?_
  all_goals first | refine g_lit (t := 11) (b := false) rfl ?_ | refine g_split (t := 11) rfl (fun h => ?_) (fun h => ?_)
  all_goals first | refine oC (gF rfl rfl rfl rfl rfl) ?_ | refine oC (gN rfl rfl rfl (oF f78_1 rfl rfl)) ?_
  all_goals first | refine oC (gF rfl rfl rfl rfl rfl) ?_ | refine oC (gN rfl rfl rfl (oD ty72 rfl rfl rfl)) ?_
  all_goals first | refine oC (gF rfl rfl rfl rfl rfl) ?_ | refine oC (gN rfl rfl rfl (oE sl72 rfl rfl)) ?_
  all_goals first | refine oC (gF rfl rfl rfl rfl rfl) ?_ | refine oC (gN rfl rfl rfl (op_gtr rfl rfl rfl)) ?_
  all_goals refine oC (oQ rfl rfl rfl rfl) ?_
  all_goals refine oC (oA rfl (Conv.of rfl) rfl) ?_
  all_goals refine oN ?_
  all_goals refine aT ?_
  all_goals refine finP (.v rfl (Conv.of rfl)) rfl ?_
  all_goals (simp_all [FV.av, voteOk])
theorem l3Has_ct (l : List Vote) (v : Vote) : CtP Tryz.prog 157 [.v l, .v v] (.v (decide (v ∈ l))) := by
  refine Ct.intro Tryz.func157 rfl rfl ?_
  refine awp_bigL 0 rfl (fun hB => ?_)
  all_goals refine aS (aR ?_)
  all_goals refine oC (op_box (o := 0) ty78 rfl (Conv.of rfl) rfl rfl) ?_
  all_goals refine oC (oA rfl (Conv.of rfl) rfl) ?_
  all_goals refine oN ?_
  all_goals refine aS (aS (aR ?_))
  all_goals refine oC (oA rfl (Conv.of rfl) rfl) ?_
  all_goals refine oN ?_
  refine aB ?_
  refine awp_loop' (fun n s => ∃ (k : Nat), ∃ (hn : n + k = l.length), ∃ (hall : decide (v ∈ l) = decide (v ∈ l.drop k)), s = mkSt 30 [(0, .v l), (3, .box 0 (IsLens.whole Vote)), (5, .v (k : Int))] [(0, .cell v)]) (l.length) ⟨0, by omega, rfl, rfl⟩ (Le.mk rfl (tle rfl (rfl) rfl (tlb rfl rfl rfl (tle rfl (rfl) rfl tln))) (olk rfl (by exact bC) oln) noS) ?_
  rintro n s ⟨k, hn, hall, rfl⟩
  all_goals refine aS (aS (aR ?_))
  all_goals refine oC (oM rfl (Conv.of rfl) rfl) ?_
  all_goals refine oC (oM rfl (Conv.of rfl) rfl) ?_
  all_goals refine oC (oE sl36 rfl rfl) ?_
  all_goals refine oC (oLt rfl rfl rfl) ?_
  all_goals refine oN ?_
  refine aC rfl (fun h => ?_) (fun h => ?_)
  · have hlt : k < l.length := by simpa using h
    have hx : l[k]? = some l[k] := List.getElem?_eq_getElem hlt
    have hs := mem_take_at (v := v) hx
    refine aW ?_
    refine aS (aB ?_)
    refine aST (s' := mkSt 30 [(0, .v l), (3, .box 0 (IsLens.whole Vote)), (5, .v (k : Int)), (29, .v (decide (l[k] = v)))] [(0, .cell v)]) ?_ ?_
    · all_goals refine dS ?_
      all_goals refine dC (oM rfl (Conv.of rfl) rfl) ?_
      all_goals refine dC (oM rfl (Conv.of rfl) rfl) ?_
      all_goals refine dC (op_ix sl36 rfl rfl rfl (by omega) hx) ?_
      all_goals refine dC (oFR f78_0 rfl rfl) ?_
      all_goals refine dC (oDR ty3 rfl rfl) ?_
      all_goals refine dC (oF f78_0 rfl rfl) ?_
      all_goals refine dC (oD ty3 rfl rfl rfl) ?_
      all_goals refine dC (op_eql rfl rfl rfl) ?_
      all_goals refine dC (oM rfl (Conv.of rfl) rfl) ?_
      all_goals refine dr_split (t := 20) rfl (fun h => ?_) (fun h => ?_)
      all_goals first | refine dC (gF rfl rfl rfl rfl rfl) ?_ | refine dC (gN rfl rfl rfl (oM rfl (Conv.of rfl) rfl)) ?_
      all_goals first | refine dC (gF rfl rfl rfl rfl rfl) ?_ | refine dC (gN rfl rfl rfl (oM rfl (Conv.of rfl) rfl)) ?_
      all_goals first | refine dC (gF rfl rfl rfl rfl rfl) ?_ | refine dC (gN rfl rfl rfl (op_ix sl36 rfl rfl rfl (by omega) hx)) ?_
      all_goals first | refine dC (gF rfl rfl rfl rfl rfl) ?_ | refine dC (gN rfl rfl rfl (oFR f78_1 rfl rfl)) ?_
      all_goals first | refine dC (gF rfl rfl rfl rfl rfl) ?_ | refine dC (gN rfl rfl rfl (oDR ty72 rfl rfl)) ?_
      all_goals first | refine dC (gF rfl rfl rfl rfl rfl) ?_ | refine dC (gN rfl rfl rfl (oF f78_1 rfl rfl)) ?_
      all_goals first | refine dC (gF rfl rfl rfl rfl rfl) ?_ | refine dC (gN rfl rfl rfl (oD ty72 rfl rfl rfl)) ?_
      all_goals first | refine dC (gF rfl rfl rfl rfl rfl) ?_ | refine dC (gN rfl rfl rfl (oL fb136 (.cons rfl (Conv.of rfl) (.cons rfl (Conv.of rfl) (.nil _))) (l3Same_ct _ _) (aK rfl rfl (aK rfl rfl aK0)) rfl rfl)) ?_
      all_goals refine dC (oQ rfl rfl rfl rfl) ?_
      all_goals refine dr_nil mixed rfl ?_
      all_goals exact Le.mk rfl (tle rfl (rfl) rfl (tlb rfl rfl rfl (tle rfl (rfl) rfl (tle rfl (by (show AV.v _ = AV.v _; congr 1; clear hall hs; generalize l[k] = u at *; obtain ⟨u1, u2⟩ := u; obtain ⟨v1, v2⟩ := v; simp_all)) rfl tln)))) (olk rfl (by exact bC) oln) noS
    refine aC rfl (fun h => ?_) (fun h => ?_)
    · all_goals refine aS (aR ?_)
      all_goals refine oC (oA rfl (Conv.of rfl) rfl) ?_
      all_goals refine oN ?_
      refine aT ?_
      repeat first | refine rS ?_ | refine rB ?_
      refine finP (.v rfl (Conv.of rfl)) rfl ?_
      show AV.v true = _
      rw [hall, hs, h, Bool.true_or]
    · refine aW ?_
      all_goals refine aR ?_
      all_goals refine oC (oM rfl (Conv.of rfl) rfl) ?_
      all_goals refine oC (oP rfl rfl rfl (by omega)) ?_
      all_goals refine oC (oA rfl (Conv.of rfl) rfl) ?_
      all_goals refine oN ?_
      repeat first | refine nS ?_ | refine nB ?_
      exact ⟨n - 1, _, by omega, ⟨k + 1, by omega, by rw [hall, hs, h, Bool.false_or], rfl⟩, Le.mk rfl (tle rfl (rfl) rfl (tlb rfl rfl rfl (tle rfl (rfl) rfl tln))) (olk rfl (by exact bC) oln) noS⟩
  · refine aE ?_
    repeat refine ex_seq ?_
    refine eB ?_
    have hk : l.length ≤ k := by simpa using h
    all_goals refine aS (aR ?_)
    all_goals refine oC (oA rfl (Conv.of rfl) rfl) ?_
    all_goals refine oN ?_
    refine aT ?_
    repeat first | refine rS ?_ | refine rB ?_
    refine finP (.v rfl (Conv.of rfl)) rfl ?_
    show AV.v false = _
    rw [hall, drop_end hk]; simp
theorem l3Many_ct (l : List Vote) (c : List Itm) : CtP Tryz.prog 160 [.v l, .v c] (.v (many l c)) := by
  refine Ct.intro Tryz.func160 rfl rfl ?_
  refine awp_bigL 0 rfl (fun hB => ?_)
  refine aS (aR ?_)
  refine oC (oA rfl (Conv.of rfl) rfl) ?_
  refine oN ?_
  refine aS (aR ?_)
  refine oC (oA rfl (Conv.of rfl) rfl) ?_
  refine oN ?_
  refine aS (aS (aR ?_))
  refine oC (oA rfl (Conv.of rfl) rfl) ?_
  refine oN ?_
  refine aB ?_
  refine awp_loop' (fun n s => ∃ (k : Nat), ∃ (m : Int), ∃ (hn : n + k = l.length), ∃ (hm : 0 ≤ m ∧ m ≤ k), ∃ (hall : many l c = manyFrom c (l.drop k) m), s = mkSt 23 [(0, .v l), (1, .v c), (5, .v m), (6, .v (k : Int))] []) (l.length) ⟨0, (0 : Int), by omega, by omega, rfl, rfl⟩ (Le.mk rfl (tle rfl (rfl) rfl (tle rfl (rfl) rfl (tle rfl (rfl) rfl (tle rfl (rfl) rfl tln)))) oln noS) ?_
  rintro n s ⟨k, m, hn, hm, hall, rfl⟩
  refine aS (aS (aR ?_))
  refine oC (oM rfl (Conv.of rfl) rfl) ?_
  refine oC (oM rfl (Conv.of rfl) rfl) ?_
  refine oC (oE sl36 rfl rfl) ?_
  refine oC (oLt rfl rfl rfl) ?_
  refine oN ?_
  refine aC rfl (fun h => ?_) (fun h => ?_)
  · have hlt : k < l.length := by simpa using h
    have hx : l[k]? = some l[k] := List.getElem?_eq_getElem hlt
    have hs := many_drop (c := c) hx m
    refine aW ?_
    refine aS (aB ?_)
    refine aS (aR ?_)
    refine oC (oM rfl (Conv.of rfl) rfl) ?_
    refine oC (oM rfl (Conv.of rfl) rfl) ?_
    refine oC (op_ix sl36 rfl rfl rfl (by omega) hx) ?_
    refine oC (oFR f78_1 rfl rfl) ?_
    refine oC (oDR ty72 rfl rfl) ?_
    refine oC (oM rfl (Conv.of rfl) rfl) ?_
    refine oC (oL fb136 (.cons rfl (Conv.of rfl) (.cons rfl (Conv.of rfl) (.nil _))) (l3Same_ct _ _) (aK rfl rfl (aK rfl rfl aK0)) rfl rfl) ?_
    refine oN ?_
    refine aC rfl (fun h => ?_) (fun h => ?_)
    · refine aR ?_
      refine oC (oM rfl (Conv.of rfl) rfl) ?_
      refine oC (oP rfl rfl rfl (by omega)) ?_
      refine oC (oA rfl (Conv.of rfl) rfl) ?_
      refine oN ?_
      refine aR ?_
      refine oC (oM rfl (Conv.of rfl) rfl) ?_
      refine oC (oP rfl rfl rfl (by omega)) ?_
      refine oC (oA rfl (Conv.of rfl) rfl) ?_
      refine oN ?_
      repeat first | refine nS ?_ | refine nB ?_
      exact ⟨n - 1, _, by omega, ⟨k + 1, m + 1, by omega, by omega, by rw [hall, hs, h]; rfl, rfl⟩, Le.mk rfl (tle rfl (rfl) rfl (tle rfl (rfl) rfl (tle rfl (rfl) rfl (tle rfl (rfl) rfl tln)))) oln noS⟩
    · refine aW ?_
      refine aR ?_
      refine oC (oM rfl (Conv.of rfl) rfl) ?_
      refine oC (oP rfl rfl rfl (by omega)) ?_
      refine oC (oA rfl (Conv.of rfl) rfl) ?_
      refine oN ?_
      repeat first | refine nS ?_ | refine nB ?_
      exact ⟨n - 1, _, by omega, ⟨k + 1, m, by omega, by omega, by rw [hall, hs, h]; rfl, rfl⟩, Le.mk rfl (tle rfl (rfl) rfl (tle rfl (rfl) rfl (tle rfl (rfl) rfl (tle rfl (rfl) rfl tln)))) oln noS⟩
  · refine aE ?_
    repeat refine ex_seq ?_
    refine eB ?_
    have hk : l.length ≤ k := by simpa using h
    refine aS (aR ?_)
    refine oC (oM rfl (Conv.of rfl) rfl) ?_
    refine oC (oA rfl (Conv.of rfl) rfl) ?_
    refine oN ?_
    refine aT ?_
    repeat first | refine rS ?_ | refine rB ?_
    refine finP (.v rfl (Conv.of rfl)) rfl ?_
    show AV.v _ = _
    rw [hall, drop_end hk]; rfl
theorem l11Sure_ct (l : List Vote) (c : List Itm) : CtP Tryz.prog 137 [.v l, .v c] (.v (sureS l c)) := by
  refine Ct.intro Tryz.func137 rfl rfl ?_
  refine awp_bigL 1 rfl (fun hB => ?_)
  refine aS (aR ?_)
  refine oC (oA rfl (Conv.of rfl) rfl) ?_
  refine oN ?_
  refine aS (aS (aR ?_))
  refine oC (oA rfl (Conv.of rfl) rfl) ?_
  refine oN ?_
  refine aB ?_
  refine awp_loop' (fun n s => ∃ (k : Nat), ∃ (hn : n + k = c.length), ∃ (hall : sureS l c = sureSFrom l c k n), s = mkSt 18 [(0, .v l), (1, .v c), (5, .v ((k : Int) + 1))] []) (c.length) ⟨0, by omega, rfl, rfl⟩ (Le.mk rfl (tle rfl (rfl) rfl (tle rfl (rfl) rfl (tle rfl (rfl) rfl tln))) oln noS) ?_
  rintro n s ⟨k, hn, hall, rfl⟩
  refine aS (aS (aR ?_))
  refine oC (oM rfl (Conv.of rfl) rfl) ?_
  refine oC (oM rfl (Conv.of rfl) rfl) ?_
  refine oC (oE sl72 rfl rfl) ?_
  refine oC (op_leq rfl rfl rfl) ?_
  refine oN ?_
  refine aC rfl (fun h => ?_) (fun h => ?_)
  · have hlt : k < c.length := by simp at h; omega
    obtain ⟨n', rfl⟩ : ∃ n', n = n' + 1 := ⟨n - 1, by omega⟩
    refine aW ?_
    refine aS (aB ?_)
    refine aS (aR ?_)
    refine oC (oM rfl (Conv.of rfl) rfl) ?_
    refine oC (oM rfl (Conv.of rfl) rfl) ?_
    refine oC (oM rfl (Conv.of rfl) rfl) ?_
    refine oC (op_slh sl72 rfl rfl rfl (by omega)) ?_
    refine oC (oL fb160 (.cons rfl (Conv.of rfl) (.cons rfl (Conv.of rfl) (.nil _))) (l3Many_ct _ _) (aK rfl rfl (aK rfl rfl aK0)) rfl rfl) ?_
    refine oC (oLt rfl rfl rfl) ?_
    refine oN ?_
    refine aC rfl (fun hb => ?_) (fun hb => ?_)
    · refine aS (aR ?_)
      refine oC (oA rfl (Conv.of rfl) rfl) ?_
      refine oN ?_
      refine aT ?_
      repeat first | refine rS ?_ | refine rB ?_
      refine finP (.v rfl (Conv.of rfl)) rfl ?_
      show AV.v false = _
      have hb' : many l (c.take ((k : Int) + 1).toNat) < 3 := by simpa using hb
      rw [hall, sureS_step, decide_eq_false (by rw [show ((k : Int) + 1).toNat = k + 1 by omega] at hb'; omega), Bool.false_and]
    · refine aW ?_
      refine aR ?_
      refine oC (oM rfl (Conv.of rfl) rfl) ?_
      refine oC (oP rfl rfl rfl (by omega)) ?_
      refine oC (oA rfl (Conv.of rfl) rfl) ?_
      refine oN ?_
      have hb' : 3 ≤ many l (c.take ((k : Int) + 1).toNat) := by simpa using hb
      repeat first | refine nS ?_ | refine nB ?_
      exact ⟨n', _, by omega, ⟨k + 1, by omega, by rw [hall, sureS_step, decide_eq_true (by rw [show ((k : Int) + 1).toNat = k + 1 by omega] at hb'; omega), Bool.true_and], rfl⟩, Le.mk rfl (tle rfl (rfl) rfl (tle rfl (rfl) rfl (tle rfl (rfl) rfl tln))) oln noS⟩
  · refine aE ?_
    repeat refine ex_seq ?_
    refine eB ?_
    have hk : n = 0 := by simp at h; omega
    subst hk
    refine aS (aR ?_)
    refine oC (oA rfl (Conv.of rfl) rfl) ?_
    refine oN ?_
    refine aT ?_
    repeat first | refine rS ?_ | refine rB ?_
    refine finP (.v rfl (Conv.of rfl)) rfl ?_
    show AV.v true = _
    rw [hall]; rfl
end Go.Proofs.YtgfoeiieopnlaaaGreatDoor

/- The reference: nodes. -/
set_option linter.unusedVariables false
set_option linter.unusedSimpArgs false
namespace Go.Proofs.YtgfoeiieopnlaaaGreatDoor
open Go Go.Wt
theorem l12Enter_ct (n : Nod) (e : Int) (hn : 0 ≤ n.epoch ∧ n.epoch ≤ 30) : CtP Tryz.prog 89 [.v (sN n), .v e] (.v (sN (enterF n e))) := by
  unfold sN
  refine Ct.intro Tryz.func89 rfl rfl ?_
  refine aS (aR ?_)
  refine oC (op_boxm (o := 0) tN rfl rfl rfl rfl) ?_
  refine oC (oX (o := 1) z66_NodS rfl rfl) ?_
  refine oN ?_
  refine aS (aS (aR ?_))
  refine oC (oM rfl (Conv.of rfl) rfl) ?_
  refine oC (oF f66_1_NodS rfl rfl) ?_
  refine oC (oD ty3 rfl rfl rfl) ?_
  refine oC (oP rfl rfl rfl (by ((try simp only [sN]); omega))) ?_
  refine oC (oL fb54 (.cons rfl (Conv.of rfl) (.cons rfl (Conv.of rfl) (.cons rfl (Conv.of rfl) (.nil _)))) (l6In_ct _ _ _) (aK rfl rfl (aK rfl rfl (aK rfl rfl aK0))) rfl rfl) ?_
  refine oN ?_
  refine aC rfl (fun h => ?_) (fun h => ?_)
  · refine aR ?_
    refine oC (oM rfl (Conv.of rfl) rfl) ?_
    refine oC (oF f66_1_NodS rfl rfl) ?_
    refine oC (op_st ty3 rfl rfl (Conv.of rfl) rfl) ?_
    refine oN ?_
    refine aS (aR ?_)
    refine oC (op_ldm tN rfl rfl rfl) ?_
    refine oC (op_stm tN rfl rfl rfl) ?_
    refine oN ?_
    refine aT ?_
    repeat first | refine rS ?_ | refine rB ?_
    refine ⟨_, _, res1C (ol := []) tN rfl rfl (fun o ho => absurd (show o ∈ ([] : List Nat) from ho) (by simp)) oln noS, ?_, rfl⟩
    have h' : within e (n.epoch + 1) 30 = true := h
    show AV.v _ = AV.v _
    simp [enterF, h']
  · refine aW ?_
    refine aS (aR ?_)
    refine oC (op_ldm tN rfl rfl rfl) ?_
    refine oC (op_stm tN rfl rfl rfl) ?_
    refine oN ?_
    refine aT ?_
    repeat first | refine rS ?_ | refine rB ?_
    refine ⟨_, _, res1C (ol := []) tN rfl rfl (fun o ho => absurd (show o ∈ ([] : List Nat) from ho) (by simp)) oln noS, ?_, rfl⟩
    have h' : within e (n.epoch + 1) 30 = false := h
    show AV.v _ = AV.v _
    simp [enterF, h']
theorem l3Add_ct (l : List Vote) (v : Vote) (hl : l.length ≤ 1000000) (hv : v.chain.length ≤ 1000000) : CtP Tryz.prog 128 [.v (OList.mk l true), .v v] (.tup [.v (OList.mk (if decide (v ∈ l) then l else l ++ [v]) true), .v (!decide (v ∈ l))]) := by
  refine Ct.intro Tryz.func128 rfl rfl ?_
  refine aS (aR ?_)
  refine oC (op_box (o := 0) ty78 rfl (Conv.of rfl) rfl rfl) ?_
  refine oC (oA rfl (Conv.of rfl) rfl) ?_
  refine oC (oA rfl (Conv.of rfl) rfl) ?_
  refine oN ?_
  refine aS (aS (aR ?_))
  refine oC (oM rfl Conv.ol rfl) ?_
  refine oC (oD ty78 rfl rfl rfl) ?_
  refine oC (oL fb157 (.cons rfl (Conv.of rfl) (.cons rfl (Conv.of rfl) (.nil _))) (l3Has_ct _ _) (aK rfl rfl (aK rfl rfl aK0)) rfl rfl) ?_
  refine oN ?_
  refine aC rfl (fun h => ?_) (fun h => ?_)
  · refine aS (aR ?_)
    refine oC (op_mvl rfl rfl rfl rfl) ?_
    refine oC (op_asl rfl rfl rfl rfl) ?_
    refine oC (oA rfl (Conv.of rfl) rfl) ?_
    refine oN ?_
    refine aT ?_
    repeat first | refine rS ?_ | refine rB ?_
    refine ⟨_, _, rNM (ol := []) (.tmp rfl (.keep (.v rfl (Conv.of rfl)) (.nil _))) rfl (fun o ho => absurd (show o ∈ ([] : List Nat) from ho) (by simp)) oln noS, ?_, rfl⟩
    simp only [h, if_true]
    try rfl
  · refine aW ?_
    refine aS (aR ?_)
    refine oC (op_mvl rfl rfl rfl rfl) ?_
    refine oC (oD ty78 rfl rfl rfl) ?_
    refine oC (oL fb156 (.cons rfl (Conv.of rfl) (.nil _)) (l3VoteCopy_ct _ hv) (aK rfl rfl aK0) rfl rfl) ?_
    refine oC (op_bsl sl36 z78 (.cons rfl (Conv.of rfl) (.nil _)) rfl (by decide) rfl) ?_
    refine oC (op_app sl36 z78 ul36 rfl rfl rfl (by (simp; omega)) (by (simp; omega)) rfl rfl) ?_
    refine oC (op_asl rfl rfl rfl rfl) ?_
    refine oC (oA rfl (Conv.of rfl) rfl) ?_
    refine oN ?_
    refine aT ?_
    repeat first | refine rS ?_ | refine rB ?_
    refine ⟨_, _, rNM (ol := []) (.tmp rfl (.keep (.v rfl (Conv.of rfl)) (.nil _))) rfl (fun o ho => absurd (show o ∈ ([] : List Nat) from ho) (by simp)) oln noS, ?_, rfl⟩
    simp only [h]
    try rfl
theorem l12Vote_ct (n : Nod) (c : List Itm) (hn : Gd n.seen) (hc : c.length ≤ 1000000) : CtP Tryz.prog 127 [.v (sN n), .v c] (.tup [.v (sN (voteF n c).1), .v (voteF n c).2.1, .v (voteF n c).2.2]) := by
  have hl := hn.len
  unfold sN
  refine Ct.intro Tryz.func127 rfl rfl ?_
  refine aS (aR ?_)
  refine oC (op_boxm (o := 0) tN rfl rfl rfl rfl) ?_
  refine oC (oX (o := 1) z66_NodS rfl rfl) ?_
  refine oC (oX (o := 2) z78 rfl rfl) ?_
  refine oC (oA rfl (Conv.of rfl) rfl) ?_
  refine oN ?_
  refine aS (dS ?_)
  refine dC (oF f66_0_NodS rfl rfl) ?_
  refine dC (oD ty3 rfl rfl rfl) ?_
  refine dC (oM rfl (Conv.of rfl) rfl) ?_
  refine dC (oL fb103 (.cons rfl (Conv.of rfl) (.nil _)) (l1Copy_ct _ hc) (aK rfl rfl aK0) rfl rfl) ?_
  refine dC (op_build (.cons f78_0 rfl (Conv.of rfl) (.cons f78_1 rfl (Conv.ol) (.nil _))) z78 rfl pl78 rfl) ?_
  refine dC (oX (o := 3) z78 rfl rfl) ?_
  refine dC (op_st ty78 rfl rfl (Conv.of rfl) rfl) ?_
  refine dr_nil mixed rfl ?_
  refine aS (aS (aR ?_))
  refine oC (oF f66_3_NodS rfl rfl) ?_
  refine oC (op_ldl ty36_OListVote rfl rfl rfl) ?_
  refine oC (oE sl36 rfl rfl) ?_
  refine oC (op_geq rfl rfl rfl) ?_
  refine oN ?_
  refine aC rfl (fun h => ?_) (fun h => ?_)
  · have h' : decide (80 ≤ n.seen.length) = true := by simp at h ⊢; omega
    refine aS (aR ?_)
    refine oC (op_ldm tN rfl rfl rfl) ?_
    refine oC (op_build (.nil _) z78 rfl pl78 rfl) ?_
    refine oC (op_stm tN rfl rfl rfl) ?_
    refine oC (op_st ty78 rfl rfl (Conv.of rfl) rfl) ?_
    refine oC (oA rfl (Conv.of rfl) rfl) ?_
    refine oN ?_
    refine aT ?_
    repeat first | refine rS ?_ | refine rB ?_
    refine ⟨_, _, rNM (ol := []) (.cell tN rfl rfl (.keep (.rc ty78 rfl rfl) (.keep (.v rfl (Conv.of rfl)) (.nil _)))) rfl (fun o ho => absurd (show o ∈ ([] : List Nat) from ho) (by simp)) oln noS, ?_, rfl⟩
    simp only [voteF, h', if_true]
    try rfl
  · have h' : decide (80 ≤ n.seen.length) = false := by simp at h ⊢; omega
    refine aW ?_
    refine aS (aR ?_)
    refine oC (oF f66_1_NodS rfl rfl) ?_
    refine oC (oD ty3 rfl rfl rfl) ?_
    refine oC (oF f66_2_NodS rfl rfl) ?_
    refine oC (op_st ty3 rfl rfl (Conv.of rfl) rfl) ?_
    refine oN ?_
    refine aS (dS ?_)
    refine dC (oF f66_3_NodS rfl rfl) ?_
    refine dC (op_ldm ty36_OListVote rfl rfl rfl) ?_
    refine dC (oD ty78 rfl rfl rfl) ?_
    refine dC (oL fb156 (.cons rfl (Conv.of rfl) (.nil _)) (l3VoteCopy_ct ⟨n.id, c⟩ hc) (aK rfl rfl aK0) rfl rfl) ?_
    refine dC (op_bsl sl36 z78 (.cons rfl (Conv.of rfl) (.nil _)) rfl (by decide) rfl) ?_
    refine dC (op_app sl36 z78 ul36 rfl rfl rfl (by (simp; omega)) (by (simp; omega)) rfl rfl) ?_
    refine dC (oF f66_3_NodS rfl rfl) ?_
    refine dC (op_stm ty36_OListVote rfl rfl rfl) ?_
    refine dr_nil mixed rfl ?_
    refine aS (dS ?_)
    refine dC (op_ldm tN rfl rfl rfl) ?_
    refine dC (oD ty78 rfl rfl rfl) ?_
    refine dC (op_stm tN rfl rfl rfl) ?_
    refine dC (op_st ty78 rfl rfl (Conv.of rfl) rfl) ?_
    refine dC (oA rfl (Conv.of rfl) rfl) ?_
    refine dr_nil mixed rfl ?_
    refine aT ?_
    repeat first | refine rS ?_ | refine rB ?_
    refine ⟨_, _, rNM (ol := []) (.cell tN rfl rfl (.keep (.rc ty78 rfl rfl) (.keep (.v rfl (Conv.of rfl)) (.nil _)))) rfl (fun o ho => absurd (show o ∈ ([] : List Nat) from ho) (by simp)) oln noS, ?_, rfl⟩
    simp only [voteF, h']
    try rfl
theorem l12Fits_ct (n : Nod) (u : Vote) (long : Nat) (hu : 0 < u.chain.length) (hn : 0 ≤ n.epoch ∧ n.epoch ≤ 30) : CtP Tryz.prog 158 [.v (fN n), .v u, .v (long : Int)] (.v (fitsS n u long)) := by
  have hx : u.chain[u.chain.length - 1]? = some (u.chain[u.chain.length - 1]'(by omega)) := List.getElem?_eq_getElem (by omega)
  have hx' : u.chain[((u.chain.length : Int) - 1).toNat]? = some (u.chain[u.chain.length - 1]'(by omega)) := by
    rw [show ((u.chain.length : Int) - 1).toNat = u.chain.length - 1 by omega]; exact hx
  unfold fN
  refine Ct.intro Tryz.func158 rfl rfl ?_
  all_goals refine aS (aR ?_)
  all_goals refine oC (op_box (o := 0) tN rfl (Conv.of rfl) rfl rfl) ?_
  all_goals refine oC (op_box (o := 1) ty78 rfl (Conv.of rfl) rfl rfl) ?_
  all_goals refine oC (oA rfl (Conv.of rfl) rfl) ?_
  all_goals refine oN ?_
  all_goals refine aS (aR ?_)
  all_goals refine oC (oF f78_1 rfl rfl) ?_
  all_goals refine oC (oD ty72 rfl rfl rfl) ?_
  refine awpOps_bigL 9 rfl (fun hb => ?_)
  all_goals refine oC (oE sl72 rfl rfl) ?_
  all_goals refine oC (op_sub rfl rfl rfl (by omega)) ?_
  all_goals refine oC (oA rfl (Conv.of rfl) rfl) ?_
  all_goals refine oN ?_
  all_goals refine aS (dS ?_)
  all_goals refine dC (oF f78_0 rfl rfl) ?_
  all_goals refine dC (oD ty3 rfl rfl rfl) ?_
  all_goals refine dC (oF f66_1_NodS rfl rfl) ?_
  all_goals refine dC (oD ty3 rfl rfl rfl) ?_
  all_goals refine dC (oL fb98 (.cons rfl (Conv.of rfl) (.nil _)) (l3Leader_ct _ (by show -1000 ≤ n.epoch ∧ n.epoch ≤ 1000000; omega)) (aK rfl rfl aK0) rfl rfl) ?_
  all_goals refine dC (op_eql rfl rfl rfl) ?_
  all_goals refine dC (oM rfl (Conv.of rfl) rfl) ?_
  all_goals refine dr_split (t := 18) rfl (fun h => ?_) (fun h => ?_)
  all_goals first | refine dC (gF rfl rfl rfl rfl rfl) ?_ | refine dC (gN rfl rfl rfl (oF f78_1 rfl rfl)) ?_
  all_goals first | refine dC (gF rfl rfl rfl rfl rfl) ?_ | refine dC (gN rfl rfl rfl (oD ty72 rfl rfl rfl)) ?_
  all_goals first | refine dC (gF rfl rfl rfl rfl rfl) ?_ | refine dC (gN rfl rfl rfl (oM rfl (Conv.of rfl) rfl)) ?_
  all_goals first | refine dC (gF rfl rfl rfl rfl rfl) ?_ | refine dC (gN rfl rfl rfl (op_ix sl72 rfl rfl rfl (by omega) hx')) ?_
  all_goals first | refine dC (gF rfl rfl rfl rfl rfl) ?_ | refine dC (gN rfl rfl rfl (oFR f74_0 rfl rfl)) ?_
  all_goals first | refine dC (gF rfl rfl rfl rfl rfl) ?_ | refine dC (gN rfl rfl rfl (oDR ty3 rfl rfl)) ?_
  all_goals first | refine dC (gF rfl rfl rfl rfl rfl) ?_ | refine dC (gN rfl rfl rfl (oF f66_1_NodS rfl rfl)) ?_
  all_goals first | refine dC (gF rfl rfl rfl rfl rfl) ?_ | refine dC (gN rfl rfl rfl (oD ty3 rfl rfl rfl)) ?_
  all_goals first | refine dC (gF rfl rfl rfl rfl rfl) ?_ | refine dC (gN rfl rfl rfl (op_eql rfl rfl rfl)) ?_
  all_goals refine dC (oQ rfl rfl rfl rfl) ?_
  all_goals refine dC (oM rfl (Conv.of rfl) rfl) ?_
  all_goals first | refine dr_lit (t := 29) (b := false) rfl ?_ | refine dr_split (t := 29) rfl (fun h => ?_) (fun h => ?_)
  all_goals first | refine dC (gF rfl rfl rfl rfl rfl) ?_ | refine dC (gN rfl rfl rfl (oM rfl (Conv.of rfl) rfl)) ?_
  all_goals first | refine dC (gF rfl rfl rfl rfl rfl) ?_ | refine dC (gN rfl rfl rfl (oM rfl (Conv.of rfl) rfl)) ?_
  all_goals first | refine dC (gF rfl rfl rfl rfl rfl) ?_ | refine dC (gN rfl rfl rfl (op_eql rfl rfl rfl)) ?_
  all_goals refine dC (oQ rfl rfl rfl rfl) ?_
  all_goals refine dC (oM rfl (Conv.of rfl) rfl) ?_
  all_goals first | refine dr_lit (t := 34) (b := false) rfl ?_ | refine dr_split (t := 34) rfl (fun h => ?_) (fun h => ?_)
  all_goals first | refine dC (gF rfl rfl rfl rfl rfl) ?_ | refine dC (gN rfl rfl rfl (oF f66_3_NodS rfl rfl)) ?_
  all_goals first | refine dC (gF rfl rfl rfl rfl rfl) ?_ | refine dC (gN rfl rfl rfl (op_ldl ty36_OListVote rfl rfl rfl)) ?_
  all_goals first | refine dC (gF rfl rfl rfl rfl rfl) ?_ | refine dC (gN rfl rfl rfl (oF f78_1 rfl rfl)) ?_
  all_goals first | refine dC (gF rfl rfl rfl rfl rfl) ?_ | refine dC (gN rfl rfl rfl (oD ty72 rfl rfl rfl)) ?_
  all_goals first | refine dC (gF rfl rfl rfl rfl rfl) ?_ | refine dC (gN rfl rfl rfl (oM rfl (Conv.of rfl) rfl)) ?_
  all_goals first | refine dC (gF rfl rfl rfl rfl rfl) ?_ | refine dC (gN rfl rfl rfl (op_slh sl72 rfl rfl rfl ⟨by omega, by omega⟩)) ?_
  all_goals first | refine dC (gF rfl rfl rfl rfl rfl) ?_ | refine dC (gN rfl rfl rfl (oL fb137 (.cons rfl (Conv.of rfl) (.cons rfl (Conv.of rfl) (.nil _))) (l11Sure_ct _ _) (aK rfl rfl (aK rfl rfl aK0)) rfl rfl)) ?_
  all_goals refine dC (oQ rfl rfl rfl rfl) ?_
  all_goals refine dC (oA rfl (Conv.of rfl) rfl) ?_
  all_goals refine dr_nil mixed rfl ?_
  all_goals refine aT ?_
  all_goals refine finP (.v rfl (Conv.of rfl)) rfl ?_
  all_goals (simp only [FV.av]; congr 1; rw [fitsS_alt hu, lastEp_get hx]; simp_all)
end Go.Proofs.YtgfoeiieopnlaaaGreatDoor

/- The reference: sure chains. -/
set_option linter.unusedVariables false
set_option linter.unusedSimpArgs false
namespace Go.Proofs.YtgfoeiieopnlaaaGreatDoor
open Go Go.Wt
set_option maxHeartbeats 1000000 in
theorem l11All_ct (l : List Vote) (hl : l.length ≤ 100000) (hv : ∀ v ∈ l, v.chain.length ≤ 1000000) : CtP Tryz.prog 101 [.v l] (.v (OList.mk (allOfS l) true)) := by
  refine Ct.intro Tryz.func101 rfl rfl ?_
  all_goals refine aS (aR ?_)
  all_goals refine oC (oA rfl (Conv.of rfl) rfl) ?_
  all_goals refine oN ?_
  all_goals refine aS (aR ?_)
  all_goals refine oC (op_bsl sl72 z74 (.nil _) rfl (by decide) rfl) ?_
  all_goals refine oC (op_bsl sl129 z72 (.cons rfl (Conv.ol) (.nil _)) rfl (by decide) rfl) ?_
  all_goals refine oC (op_asl rfl rfl rfl rfl) ?_
  all_goals refine oN ?_
  all_goals refine aS (aS (aR ?_))
  all_goals refine oC (oA rfl (Conv.of rfl) rfl) ?_
  all_goals refine oN ?_
  refine aB ?_
  refine awp_loop' (fun n s => ∃ (k : Nat), ∃ (hn : n + k = l.length), s = mkSt 55 [(0, .v l), (3, .v (OList.mk ((l.take k).foldl (allStepS l) [[]]) true)), (4, .v (k : Int))] []) (l.length) ⟨0, by omega, rfl⟩ (Le.mk rfl (tle rfl (rfl) rfl (tle rfl (by rfl) rfl (tle rfl (rfl) rfl tln))) oln noS) ?_
  rintro n s ⟨k, hn, rfl⟩
  generalize hO : (l.take k).foldl (allStepS l) [[]] = out
  have hout : out.length ≤ 100001 := by
    have := allStepS_len l (l.take k) [[]]
    rw [hO] at this
    simp at this; omega
  all_goals refine aS (aS (aR ?_))
  all_goals refine oC (oM rfl (Conv.of rfl) rfl) ?_
  all_goals refine oC (oM rfl (Conv.of rfl) rfl) ?_
  all_goals refine oC (oE sl36 rfl rfl) ?_
  all_goals refine oC (oLt rfl rfl rfl) ?_
  all_goals refine oN ?_
  refine aC rfl (fun h => ?_) (fun h => ?_)
  · have hlt : k < l.length := by simpa using h
    have hx : l[k]? = some l[k] := List.getElem?_eq_getElem hlt
    refine aW ?_
    refine aS (aB ?_)
    all_goals refine aS (aR ?_)
    all_goals refine oC (oA rfl (Conv.of rfl) rfl) ?_
    all_goals refine oN ?_
    all_goals refine aS (aS (aR ?_))
    all_goals refine oC (oA rfl (Conv.of rfl) rfl) ?_
    all_goals refine oN ?_
    refine awp_to (s' := mkSt 55 [(0, .v l), (3, .v (OList.mk out true)), (4, .v (k : Int)), (5, .v (decide (l[k].chain ∈ out)))] []) ?_ ?_
    · refine aB ?_
      refine awp_loop' (fun n_ s => ∃ (m : Nat), ∃ (hn2 : n_ + m = out.length), s = mkSt 55 [(0, .v l), (3, .v (OList.mk out true)), (4, .v (k : Int)), (5, .v (decide (l[k].chain ∈ out.take m))), (6, .v (m : Int))] []) (out.length) ⟨0, by omega, rfl⟩ (Le.mk rfl (tle rfl (rfl) rfl (tle rfl (rfl) rfl (tle rfl (rfl) rfl (tle rfl (by rfl) rfl (tle rfl (rfl) rfl tln))))) oln noS) ?_
      rintro n_ s ⟨m, hn2, rfl⟩
      all_goals refine aS (aS (aR ?_))
      all_goals refine oC (oM rfl (Conv.of rfl) rfl) ?_
      all_goals refine oC (oM rfl Conv.ol rfl) ?_
      all_goals refine oC (oE sl129 rfl rfl) ?_
      all_goals refine oC (oLt rfl rfl rfl) ?_
      all_goals refine oN ?_
      refine aC rfl (fun h2 => ?_) (fun h2 => ?_)
      · have hlt2 : m < out.length := by simpa using h2
        have hy : out[m]? = some out[m] := List.getElem?_eq_getElem hlt2
        have hs2 := mem_take_c (v := l[k].chain) hy
        refine aW ?_
        refine aS (aB ?_)
        refine awp_toB (s' := mkSt 55 [(0, .v l), (3, .v (OList.mk out true)), (4, .v (k : Int)), (5, .v (decide (l[k].chain ∈ out.take (m + 1)))), (6, .v (m : Int))] []) ?_ ?_
        · all_goals refine dS ?_
          all_goals refine dC (oM rfl (Conv.of rfl) rfl) ?_
          all_goals refine dC (oM rfl (Conv.of rfl) rfl) ?_
          all_goals refine dr_split (t := 22) rfl (fun h => ?_) (fun h => ?_)
          all_goals first | refine dC (gF rfl rfl rfl rfl rfl) ?_ | refine dC (gN rfl rfl rfl (oM rfl Conv.ol rfl)) ?_
          all_goals first | refine dC (gF rfl rfl rfl rfl rfl) ?_ | refine dC (gN rfl rfl rfl (oM rfl (Conv.of rfl) rfl)) ?_
          all_goals first | refine dC (gF rfl rfl rfl rfl rfl) ?_ | refine dC (gN rfl rfl rfl (op_ix sl129 rfl rfl rfl (by omega) hy)) ?_
          all_goals first | refine dC (gF rfl rfl rfl rfl rfl) ?_ | refine dC (gN rfl rfl rfl (oDR ty72 rfl rfl)) ?_
          all_goals first | refine dC (gF rfl rfl rfl rfl rfl) ?_ | refine dC (gN rfl rfl rfl (oM rfl (Conv.of rfl) rfl)) ?_
          all_goals first | refine dC (gF rfl rfl rfl rfl rfl) ?_ | refine dC (gN rfl rfl rfl (oM rfl (Conv.of rfl) rfl)) ?_
          all_goals first | refine dC (gF rfl rfl rfl rfl rfl) ?_ | refine dC (gN rfl rfl rfl (op_ix sl36 rfl rfl rfl (by omega) hx)) ?_
          all_goals first | refine dC (gF rfl rfl rfl rfl rfl) ?_ | refine dC (gN rfl rfl rfl (oFR f78_1 rfl rfl)) ?_
          all_goals first | refine dC (gF rfl rfl rfl rfl rfl) ?_ | refine dC (gN rfl rfl rfl (oDR ty72 rfl rfl)) ?_
          all_goals first | refine dC (gF rfl rfl rfl rfl rfl) ?_ | refine dC (gN rfl rfl rfl (oL fb136 (.cons rfl (Conv.of rfl) (.cons rfl (Conv.of rfl) (.nil _))) (l3Same_ct _ _) (aK rfl rfl (aK rfl rfl aK0)) rfl rfl)) ?_
          all_goals refine dC (oQ rfl rfl rfl rfl) ?_
          all_goals refine dC (oA rfl (Conv.of rfl) rfl) ?_
          all_goals refine dr_nil mixed rfl ?_
          all_goals exact Le.mk rfl (tle rfl (rfl) rfl (tle rfl (rfl) rfl (tle rfl (rfl) rfl (tle rfl (by (rw [hs2]; clear hs2; simp_all)) rfl (tle rfl (rfl) rfl tln))))) oln noS
        all_goals refine aR ?_
        all_goals refine oC (oM rfl (Conv.of rfl) rfl) ?_
        all_goals refine oC (oP rfl rfl rfl (by omega)) ?_
        all_goals refine oC (oA rfl (Conv.of rfl) rfl) ?_
        all_goals refine oN ?_
        repeat first | refine nS ?_ | refine nB ?_
        exact ⟨n_ - 1, _, by omega, ⟨m + 1, by omega, rfl⟩, Le.mk rfl (tle rfl (rfl) rfl (tle rfl (rfl) rfl (tle rfl (rfl) rfl (tle rfl (by rfl) rfl (tle rfl (rfl) rfl tln))))) oln noS⟩
      · refine aE ?_
        repeat refine ex_seq ?_
        refine eB ?_
        have hm : out.length ≤ m := by simpa using h2
        all_goals exact Le.mk rfl (tle rfl (rfl) rfl (tle rfl (rfl) rfl (tle rfl (rfl) rfl (tle rfl (by (simp only [take_end hm])) rfl tln)))) oln noS
    · refine aST (s' := mkSt 55 [(0, .v l), (3, .v (OList.mk out true)), (4, .v (k : Int)), (44, .v (!decide (l[k].chain ∈ out) && sureS l l[k].chain))] []) ?_ ?_
      · all_goals refine aR ?_
        all_goals refine oC (oM rfl (Conv.of rfl) rfl) ?_
        all_goals refine oC (op_not rfl rfl) ?_
        all_goals refine oC (oM rfl (Conv.of rfl) rfl) ?_
        all_goals refine g_split (t := 36) rfl (fun h => ?_) (fun h => ?_)
        all_goals first | refine oC (gF rfl rfl rfl rfl rfl) ?_ | refine oC (gN rfl rfl rfl (oM rfl (Conv.of rfl) rfl)) ?_
        all_goals first | refine oC (gF rfl rfl rfl rfl rfl) ?_ | refine oC (gN rfl rfl rfl (oM rfl (Conv.of rfl) rfl)) ?_
        all_goals first | refine oC (gF rfl rfl rfl rfl rfl) ?_ | refine oC (gN rfl rfl rfl (oM rfl (Conv.of rfl) rfl)) ?_
        all_goals first | refine oC (gF rfl rfl rfl rfl rfl) ?_ | refine oC (gN rfl rfl rfl (op_ix sl36 rfl rfl rfl (by omega) hx)) ?_
        all_goals first | refine oC (gF rfl rfl rfl rfl rfl) ?_ | refine oC (gN rfl rfl rfl (oFR f78_1 rfl rfl)) ?_
        all_goals first | refine oC (gF rfl rfl rfl rfl rfl) ?_ | refine oC (gN rfl rfl rfl (oDR ty72 rfl rfl)) ?_
        all_goals first | refine oC (gF rfl rfl rfl rfl rfl) ?_ | refine oC (gN rfl rfl rfl (oL fb137 (.cons rfl (Conv.of rfl) (.cons rfl (Conv.of rfl) (.nil _))) (l11Sure_ct _ _) (aK rfl rfl (aK rfl rfl aK0)) rfl rfl)) ?_
        all_goals refine oC (oQ rfl rfl rfl rfl) ?_
        all_goals refine oN ?_
        all_goals exact Le.mk rfl (tle rfl (rfl) rfl (tle rfl (rfl) rfl (tle rfl (rfl) rfl (tle rfl (by simp_all) rfl tln)))) oln noS
      refine aC rfl (fun hb => ?_) (fun hb => ?_)
      · all_goals refine aR ?_
        all_goals refine oC (op_mvl rfl rfl rfl rfl) ?_
        all_goals refine oC (oM rfl (Conv.of rfl) rfl) ?_
        all_goals refine oC (oM rfl (Conv.of rfl) rfl) ?_
        all_goals refine oC (op_ix sl36 rfl rfl rfl (by omega) hx) ?_
        all_goals refine oC (oFR f78_1 rfl rfl) ?_
        all_goals refine oC (oDR ty72 rfl rfl) ?_
        all_goals refine oC (oL fb103 (.cons rfl (Conv.of rfl) (.nil _)) (l1Copy_ct _ (hv _ (List.getElem_mem hlt))) (aK rfl rfl aK0) rfl rfl) ?_
        all_goals refine oC (op_bsl sl129 z72 (.cons rfl (Conv.ol) (.nil _)) rfl (by decide) rfl) ?_
        all_goals refine oC (op_app sl129 z72 ul129 rfl rfl rfl (by (simp; omega)) (by (simp; omega)) rfl rfl) ?_
        all_goals refine oC (op_asl rfl rfl rfl rfl) ?_
        all_goals refine oN ?_
        all_goals refine aR ?_
        all_goals refine oC (oM rfl (Conv.of rfl) rfl) ?_
        all_goals refine oC (oP rfl rfl rfl (by omega)) ?_
        all_goals refine oC (oA rfl (Conv.of rfl) rfl) ?_
        all_goals refine oN ?_
        repeat first | refine nS ?_ | refine nB ?_
        exact ⟨n - 1, _, by omega, ⟨k + 1, by omega, rfl⟩, Le.mk rfl (tle rfl (rfl) rfl (tle rfl (by (rw [foldl_at _ _ hx, hO]; simp only [allStepS, hb]; try rfl)) rfl (tle rfl (rfl) rfl tln))) oln noS⟩
      · refine aW ?_
        all_goals refine aR ?_
        all_goals refine oC (oM rfl (Conv.of rfl) rfl) ?_
        all_goals refine oC (oP rfl rfl rfl (by omega)) ?_
        all_goals refine oC (oA rfl (Conv.of rfl) rfl) ?_
        all_goals refine oN ?_
        repeat first | refine nS ?_ | refine nB ?_
        exact ⟨n - 1, _, by omega, ⟨k + 1, by omega, rfl⟩, Le.mk rfl (tle rfl (rfl) rfl (tle rfl (by (rw [foldl_at _ _ hx, hO]; simp only [allStepS, hb]; try rfl)) rfl (tle rfl (rfl) rfl tln))) oln noS⟩
  · refine aE ?_
    repeat refine ex_seq ?_
    refine eB ?_
    have hk : l.length ≤ k := by simpa using h
    all_goals refine aS (aR ?_)
    all_goals refine oC (op_mvl rfl rfl rfl rfl) ?_
    all_goals refine oC (op_asl rfl rfl rfl rfl) ?_
    all_goals refine oN ?_
    refine aT ?_
    repeat first | refine rS ?_ | refine rB ?_
    exact finM rfl rfl (by rw [← hO, take_end hk]; rfl)
theorem l11Tip_ct (l : List Vote) (hl : l.length ≤ 100000) (hv : ∀ v ∈ l, v.chain.length ≤ 1000000) : CtP Tryz.prog 125 [.v l] (.v (tipOfS l)) := by
  have h0 := allOfS_0 l
  have hall : (allOfS l).length ≤ 100001 := by
    have := allStepS_len l l [[]]
    simp at this; unfold allOfS; omega
  have hpos : 0 < (allOfS l).length := (List.getElem?_eq_some_iff.1 h0).1
  refine Ct.intro Tryz.func125 rfl rfl ?_
  refine aS (aR ?_)
  refine oC (oA rfl (Conv.of rfl) rfl) ?_
  refine oN ?_
  refine aS (aR ?_)
  refine oC (oM rfl (Conv.of rfl) rfl) ?_
  refine oC (oL fb101 (.cons rfl (Conv.of rfl) (.nil _)) (l11All_ct l hl hv) (aK rfl rfl aK0) rfl rfl) ?_
  refine oC (oA rfl Conv.ol rfl) ?_
  refine oN ?_
  refine aS (aR ?_)
  refine oC (oM rfl (Conv.of rfl) rfl) ?_
  refine oC (op_ix sl129 rfl rfl rfl (by omega) h0) ?_
  refine oC (oDR ty72 rfl rfl) ?_
  refine oC (oA rfl (Conv.of rfl) rfl) ?_
  refine oN ?_
  refine aS (aS (aR ?_))
  refine oC (oA rfl (Conv.of rfl) rfl) ?_
  refine oN ?_
  refine aB ?_
  refine awp_loop' (fun n s => ∃ (k : Nat), ∃ (hn : n + k = (allOfS l).length), ∃ (hk1 : 1 ≤ k), s = mkSt 30 [(3, .v (allOfS l)), (4, .v (((allOfS l).take k).foldl tipStep [])), (5, .v (k : Int))] []) ((allOfS l).length - 1) ⟨1, by omega, Nat.le_refl _, rfl⟩ (Le.mk rfl (tle rfl (rfl) rfl (tle rfl (by (first | (show AV.v _ = AV.v _; rw [show (allOfS l).take 1 = [[]] from by rw [take_at h0]; rfl]; rfl) | rw [foldl_at _ _ hx]; simp only [tipStep, hb'']; try rfl)) rfl (tle rfl (rfl) rfl tln))) oln noS) ?_
  rintro n s ⟨k, hn, hk1, rfl⟩
  refine aS (aS (aR ?_))
  refine oC (oM rfl (Conv.of rfl) rfl) ?_
  refine oC (oM rfl (Conv.of rfl) rfl) ?_
  refine oC (oE sl129 rfl rfl) ?_
  refine oC (oLt rfl rfl rfl) ?_
  refine oN ?_
  refine aC rfl (fun h => ?_) (fun h => ?_)
  · have hlt : k < (allOfS l).length := by simpa using h
    have hx : (allOfS l)[k]? = some (allOfS l)[k] := List.getElem?_eq_getElem hlt
    refine aW ?_
    refine aS (aB ?_)
    refine aS (aR ?_)
    refine oC (oM rfl (Conv.of rfl) rfl) ?_
    refine oC (oM rfl (Conv.of rfl) rfl) ?_
    refine oC (op_ix sl129 rfl rfl rfl (by omega) hx) ?_
    refine oC (oDR ty72 rfl rfl) ?_
    refine oC (oE sl72 rfl rfl) ?_
    refine oC (oM rfl (Conv.of rfl) rfl) ?_
    refine oC (oE sl72 rfl rfl) ?_
    refine oC (op_gtr rfl rfl rfl) ?_
    refine oN ?_
    refine aC rfl (fun hb => ?_) (fun hb => ?_)
    · have hb'' : decide ((((allOfS l).take k).foldl tipStep []).length < ((allOfS l)[k]).length) = true := by simp at hb ⊢; omega
      refine aR ?_
      refine oC (oM rfl (Conv.of rfl) rfl) ?_
      refine oC (oM rfl (Conv.of rfl) rfl) ?_
      refine oC (op_ix sl129 rfl rfl rfl (by omega) hx) ?_
      refine oC (oDR ty72 rfl rfl) ?_
      refine oC (oA rfl (Conv.of rfl) rfl) ?_
      refine oN ?_
      refine aR ?_
      refine oC (oM rfl (Conv.of rfl) rfl) ?_
      refine oC (oP rfl rfl rfl (by omega)) ?_
      refine oC (oA rfl (Conv.of rfl) rfl) ?_
      refine oN ?_
      repeat first | refine nS ?_ | refine nB ?_
      exact ⟨n - 1, _, by omega, ⟨k + 1, by omega, by omega, rfl⟩, Le.mk rfl (tle rfl (rfl) rfl (tle rfl (by (first | (show AV.v _ = AV.v _; rw [show (allOfS l).take 1 = [[]] from by rw [take_at h0]; rfl]; rfl) | rw [foldl_at _ _ hx]; simp only [tipStep, hb'']; try rfl)) rfl (tle rfl (rfl) rfl tln))) oln noS⟩
    · have hb'' : decide ((((allOfS l).take k).foldl tipStep []).length < ((allOfS l)[k]).length) = false := by simp at hb ⊢; omega
      refine aW ?_
      refine aR ?_
      refine oC (oM rfl (Conv.of rfl) rfl) ?_
      refine oC (oP rfl rfl rfl (by omega)) ?_
      refine oC (oA rfl (Conv.of rfl) rfl) ?_
      refine oN ?_
      repeat first | refine nS ?_ | refine nB ?_
      exact ⟨n - 1, _, by omega, ⟨k + 1, by omega, by omega, rfl⟩, Le.mk rfl (tle rfl (rfl) rfl (tle rfl (by (first | (show AV.v _ = AV.v _; rw [show (allOfS l).take 1 = [[]] from by rw [take_at h0]; rfl]; rfl) | rw [foldl_at _ _ hx]; simp only [tipStep, hb'']; try rfl)) rfl (tle rfl (rfl) rfl tln))) oln noS⟩
  · refine aE ?_
    repeat refine ex_seq ?_
    refine eB ?_
    have hk : (allOfS l).length ≤ k := by simpa using h
    refine aS (aR ?_)
    refine oC (oM rfl (Conv.of rfl) rfl) ?_
    refine oC (oA rfl (Conv.of rfl) rfl) ?_
    refine oN ?_
    refine aT ?_
    repeat first | refine rS ?_ | refine rB ?_
    refine finP (.v rfl (Conv.of rfl)) rfl ?_
    simp only [take_end hk]; rfl
end Go.Proofs.YtgfoeiieopnlaaaGreatDoor

/- The reference: a node proposes. -/
set_option linter.unusedVariables false
set_option linter.unusedSimpArgs false
namespace Go.Proofs.YtgfoeiieopnlaaaGreatDoor
open Go Go.Wt
set_option maxHeartbeats 1000000 in
theorem l12Propose_ct (n : Nod) (p : Pay) (hn : Gd n.seen) (he : 0 ≤ n.epoch ∧ n.epoch ≤ 30) : CtP Tryz.prog 91 [.v (sN n), .v p] (res3S (proposeS n p)) := by
  have htip := hn.tipS
  unfold sN
  refine Ct.intro Tryz.func91 rfl rfl ?_
  all_goals refine aS (aR ?_)
  all_goals refine oC (op_boxm (o := 0) tN rfl rfl rfl rfl) ?_
  all_goals refine oC (op_box (o := 1) ty61 rfl (Conv.of rfl) rfl rfl) ?_
  all_goals refine oC (oX (o := 2) z66_NodS rfl rfl) ?_
  all_goals refine oC (oX (o := 3) z78 rfl rfl) ?_
  all_goals refine oC (oA rfl (Conv.of rfl) rfl) ?_
  all_goals refine oN ?_
  refine aS (aST (s' := mkSt 49 [(2, .box 0 (IsLens.whole NodS)), (3, .box 1 (IsLens.whole Pay)), (4, .box 2 (IsLens.whole NodS)), (5, .box 3 (IsLens.whole Vote)), (6, .v false), (25, .v (decide (n.epoch = 0) || decide (n.voted = n.epoch) || !decide (leadS n.epoch = n.id)))] [(0, .cell (sN n)), (1, .cell p), (2, .cell NodS.zero), (3, .cell Vote.zero)]) ?_ ?_)
  · all_goals refine dS ?_
    all_goals refine dC (oF f66_1_NodS rfl rfl) ?_
    all_goals refine dC (oD ty3 rfl rfl rfl) ?_
    all_goals refine dC (op_eql rfl rfl rfl) ?_
    all_goals refine dC (oM rfl (Conv.of rfl) rfl) ?_
    all_goals refine dr_split (t := 11) rfl (fun h => ?_) (fun h => ?_)
    all_goals first | refine dC (gF rfl rfl rfl rfl rfl) ?_ | refine dC (gN rfl rfl rfl (oF f66_2_NodS rfl rfl)) ?_
    all_goals first | refine dC (gF rfl rfl rfl rfl rfl) ?_ | refine dC (gN rfl rfl rfl (oD ty3 rfl rfl rfl)) ?_
    all_goals first | refine dC (gF rfl rfl rfl rfl rfl) ?_ | refine dC (gN rfl rfl rfl (oF f66_1_NodS rfl rfl)) ?_
    all_goals first | refine dC (gF rfl rfl rfl rfl rfl) ?_ | refine dC (gN rfl rfl rfl (oD ty3 rfl rfl rfl)) ?_
    all_goals first | refine dC (gF rfl rfl rfl rfl rfl) ?_ | refine dC (gN rfl rfl rfl (op_eql rfl rfl rfl)) ?_
    all_goals refine dC (oQ rfl rfl rfl rfl) ?_
    all_goals refine dC (oM rfl (Conv.of rfl) rfl) ?_
    all_goals first | refine dr_lit (t := 18) (b := true) rfl ?_ | refine dr_split (t := 18) rfl (fun h => ?_) (fun h => ?_)
    all_goals first | refine dC (gF rfl rfl rfl rfl rfl) ?_ | refine dC (gN rfl rfl rfl (oF f66_1_NodS rfl rfl)) ?_
    all_goals first | refine dC (gF rfl rfl rfl rfl rfl) ?_ | refine dC (gN rfl rfl rfl (oD ty3 rfl rfl rfl)) ?_
    all_goals first | refine dC (gF rfl rfl rfl rfl rfl) ?_ | refine dC (gN rfl rfl rfl (oL fb98 (.cons rfl (Conv.of rfl) (.nil _)) (l3Leader_ct _ (by show -1000 ≤ n.epoch ∧ n.epoch ≤ 1000000; omega)) (aK rfl rfl aK0) rfl rfl)) ?_
    all_goals first | refine dC (gF rfl rfl rfl rfl rfl) ?_ | refine dC (gN rfl rfl rfl (oF f66_0_NodS rfl rfl)) ?_
    all_goals first | refine dC (gF rfl rfl rfl rfl rfl) ?_ | refine dC (gN rfl rfl rfl (oD ty3 rfl rfl rfl)) ?_
    all_goals first | refine dC (gF rfl rfl rfl rfl rfl) ?_ | refine dC (gN rfl rfl rfl (op_neq rfl rfl rfl)) ?_
    all_goals refine dC (oQ rfl rfl rfl rfl) ?_
    all_goals refine dr_nil mixed rfl ?_
    all_goals exact Le.mk rfl (tlb rfl rfl rfl (tlb rfl rfl rfl (tlb rfl rfl rfl (tlb rfl rfl rfl (tle rfl (rfl) rfl (tle rfl (by (clear htip; simp_all [sN]; try (rw [Bool.eq_iff_iff]; simp))) rfl tln)))))) (olk rfl (by exact obOkN) (olk rfl (by exact bC) (olk rfl (by exact obOkN) (olk rfl (by exact bC) oln)))) noS
  refine aC rfl (fun h => ?_) (fun h => ?_)
  · all_goals refine aS (aR ?_)
    all_goals refine oC (op_ldm tN rfl rfl rfl) ?_
    all_goals refine oC (op_build (.nil _) z78 rfl pl78 rfl) ?_
    all_goals refine oC (op_stm tN rfl rfl rfl) ?_
    all_goals refine oC (op_st ty78 rfl rfl (Conv.of rfl) rfl) ?_
    all_goals refine oC (oA rfl (Conv.of rfl) rfl) ?_
    all_goals refine oN ?_
    refine aT ?_
    repeat first | refine rS ?_ | refine rB ?_
    refine ⟨_, _, rNM (ol := []) (.cell tN rfl rfl (.keep (.rc ty78 rfl rfl) (.keep (.v rfl (Conv.of rfl)) (.nil _)))) rfl (fun o ho => absurd (show o ∈ ([] : List Nat) from ho) (by simp)) oln noS, ?_, rfl⟩
    rw [proposeS, h, if_pos rfl]; rfl
  · refine aW ?_
    all_goals refine aS (dS ?_)
    all_goals refine dC (oF f66_3_NodS rfl rfl) ?_
    all_goals refine dC (op_ldl ty36_OListVote rfl rfl rfl) ?_
    all_goals refine dC (oL fb125 (.cons rfl (Conv.of rfl) (.nil _)) (l11Tip_ct _ hn.l hn.v) (aK rfl rfl aK0) rfl rfl) ?_
    all_goals refine dC (oL fb103 (.cons rfl (Conv.of rfl) (.nil _)) (l1Copy_ct _ (by show (tipOfS n.seen).length ≤ 1000000; omega)) (aK rfl rfl aK0) rfl rfl) ?_
    all_goals refine dC (oF f66_1_NodS rfl rfl) ?_
    all_goals refine dC (oD ty3 rfl rfl rfl) ?_
    all_goals refine dC (oD ty61 rfl rfl rfl) ?_
    all_goals refine dC (op_build (.cons f74_0 rfl (Conv.of rfl) (.cons f74_1 rfl (Conv.of rfl) (.nil _))) z74 rfl pl74 rfl) ?_
    all_goals refine dC (op_bsl sl72 z74 (.cons rfl (Conv.of rfl) (.nil _)) rfl (by decide) rfl) ?_
    all_goals refine dC (op_app sl72 z74 ul72 rfl rfl rfl (by (simp [sN]; omega)) (by (simp [sN]; omega)) rfl rfl) ?_
    all_goals refine dC (op_asl rfl rfl rfl rfl) ?_
    all_goals refine dr_nil mixed rfl ?_
    all_goals refine aS (aS (aR ?_))
    all_goals refine oC (oM rfl Conv.ol rfl) ?_
    all_goals refine oC (oL fb126 (.cons rfl (Conv.of rfl) (.nil _)) (sChainOk_ct _) (aK rfl rfl aK0) rfl rfl) ?_
    all_goals refine oC (op_not rfl rfl) ?_
    all_goals refine oN ?_
    refine aC rfl (fun h2 => ?_) (fun h2 => ?_)
    · all_goals refine aS (aR ?_)
      all_goals refine oC (op_ldm tN rfl rfl rfl) ?_
      all_goals refine oC (op_build (.nil _) z78 rfl pl78 rfl) ?_
      all_goals refine oC (op_stm tN rfl rfl rfl) ?_
      all_goals refine oC (op_st ty78 rfl rfl (Conv.of rfl) rfl) ?_
      all_goals refine oC (oA rfl (Conv.of rfl) rfl) ?_
      all_goals refine oN ?_
      refine aT ?_
      repeat first | refine rS ?_ | refine rB ?_
      refine ⟨_, _, rNM (ol := []) (.cell tN rfl rfl (.keep (.rc ty78 rfl rfl) (.keep (.v rfl (Conv.of rfl)) (.nil _)))) rfl (fun o ho => absurd (show o ∈ ([] : List Nat) from ho) (by simp)) oln noS, ?_, rfl⟩
      have h2' := not_t h2
      rw [proposeS, h, if_neg (by decide), if_neg (by rw [show chainOk (tipOfS n.seen ++ [⟨n.epoch, p⟩]) = false from h2']; decide)]; rfl
    · have h2' := not_f h2
      refine aW ?_
      all_goals refine aS (aR ?_)
      all_goals refine oC (op_ldm tN rfl rfl rfl) ?_
      all_goals refine oC (oM rfl Conv.ol rfl) ?_
      all_goals refine oC (oLM (s := 43) (ol := []) (ol' := []) (pre := []) fb127 (.nil _) rfl (.cons rfl (Conv.of rfl) (.nil _)) (l12Vote_ct n _ hn (by simp [sN]; omega)) ols0 k0 k0 rfl argO0 (argOk' rfl rfl argO0) (fun o ho => absurd (show o ∈ ([] : List Nat) from ho) (by simp)) (fun o ho => absurd (show o ∈ ([] : List Nat) from ho) (by simp)) rfl) ?_
      all_goals refine oC (op_extm rfl rfl rfl rfl) ?_
      all_goals refine oC (op_ext rfl rfl rfl) ?_
      all_goals refine oC (op_ext rfl rfl rfl) ?_
      all_goals refine oC (op_stm tN rfl rfl rfl) ?_
      all_goals refine oC (op_st ty78 rfl rfl (Conv.of rfl) rfl) ?_
      all_goals refine oC (oA rfl (Conv.of rfl) rfl) ?_
      all_goals refine oN ?_
      refine aT ?_
      repeat first | refine rS ?_ | refine rB ?_
      refine ⟨_, _, rNM (ol := []) (.cell tN rfl rfl (.keep (.rc ty78 rfl rfl) (.keep (.v rfl (Conv.of rfl)) (.nil _)))) rfl (fun o ho => absurd (show o ∈ ([] : List Nat) from ho) (by simp)) oln noS, ?_, rfl⟩
      rw [proposeS, h, if_neg (by decide), if_pos (show chainOk (tipOfS n.seen ++ [⟨n.epoch, p⟩]) = true from h2')]
      show AV.tup _ = AV.tup _
      rfl
end Go.Proofs.YtgfoeiieopnlaaaGreatDoor

/- The reference: new nodes; room for votes. -/
set_option linter.unusedVariables false
set_option linter.unusedSimpArgs false
namespace Go.Proofs.YtgfoeiieopnlaaaGreatDoor
open Go Go.Wt
theorem sNodeNew_ct (i : Int) (hi : within i 1 4 = true) : CtP Tryz.prog 55 [.v i] (.tup [.v (NodC.mk i 0 0 ⟨[]⟩), .v true]) := by
  refine Ct.intro Tryz.func55 rfl rfl ?_
  refine aS (aR ?_)
  refine oC (oX (o := 0) z66_NodC rfl rfl) ?_
  refine oC (oA rfl (Conv.of rfl) rfl) ?_
  refine oN ?_
  refine aS (aS (aR ?_))
  refine oC (oM rfl (Conv.of rfl) rfl) ?_
  refine oC (oL fb54 (.cons rfl (Conv.of rfl) (.cons rfl (Conv.of rfl) (.cons rfl (Conv.of rfl) (.nil _)))) (l6In_ct _ _ _) (aK rfl rfl (aK rfl rfl (aK rfl rfl aK0))) rfl rfl) ?_
  refine oC (op_not rfl rfl) ?_
  refine oN ?_
  refine aC rfl (fun h => absurd (not_t h) (by rw [hi]; decide)) (fun h => ?_)
  refine aW ?_
  refine aS (aR ?_)
  refine oC (oM rfl (Conv.of rfl) rfl) ?_
  refine oC (op_bsc sl36 z78 (.nil _) rfl (by decide) rfl) ?_
  refine oC (op_build (.cons f66_0_NodC rfl (Conv.of rfl) (.cons f66_3_NodC rfl (Conv.of rfl) (.nil _))) z66_NodC rfl pl66 rfl) ?_
  refine oC (op_st ty66_NodC rfl rfl (Conv.of rfl) rfl) ?_
  refine oC (oA rfl (Conv.of rfl) rfl) ?_
  refine oN ?_
  refine aT ?_
  repeat first | refine rS ?_ | refine rB ?_
  exact finN (.cons (.rc ty66_NodC rfl rfl) (.cons (.v rfl (Conv.of rfl)) .nil)) rfl rfl rfl
theorem l21Send_ct (w : Wrld) (v : Vote) (ok : Bool) (ns : List NodS) (hl : Gd w.log) (hv : v.chain.length ≤ 1000000) : CtO Tryz.prog 92 [.v (sW w), .v v, .v ok] [(1, .arr ns)] (.v (sW (if ok then sendF w v else w))) [(1, .arr ns)] := by
  have hlen := hl.len
  unfold sW
  refine Ct.intro Tryz.func92 rfl rfl ?_
  all_goals refine aS (aR ?_)
  all_goals refine oC (op_boxm (o := 5) tW rfl rfl rfl rfl) ?_
  all_goals refine oC (op_box (o := 6) ty78 rfl (Conv.of rfl) rfl rfl) ?_
  all_goals refine oC (oX (o := 7) z38_WrldS rfl rfl) ?_
  all_goals refine oN ?_
  refine aS (aST (s' := mkSt 26 [(3, .box 5 (IsLens.whole WrldS)), (4, .box 6 (IsLens.whole Vote)), (6, .box 7 (IsLens.whole WrldS)), (15, .v (ok && decide (w.log.length < 80)))] [(1, .arr ns), (5, .cell (sW w)), (6, .cell v), (7, .cell WrldS.zero)]) ?_ ?_)
  · all_goals refine aR ?_
    all_goals refine oC (oM rfl (Conv.of rfl) rfl) ?_
    all_goals refine oC (oM rfl (Conv.of rfl) rfl) ?_
    all_goals refine g_split (t := 10) rfl (fun h => ?_) (fun h => ?_)
    all_goals first | refine oC (gF rfl rfl rfl rfl rfl) ?_ | refine oC (gN rfl rfl rfl (oF f38_2_WrldS rfl rfl)) ?_
    all_goals first | refine oC (gF rfl rfl rfl rfl rfl) ?_ | refine oC (gN rfl rfl rfl (op_ldl ty36_OListVote rfl rfl rfl)) ?_
    all_goals first | refine oC (gF rfl rfl rfl rfl rfl) ?_ | refine oC (gN rfl rfl rfl (oE sl36 rfl rfl)) ?_
    all_goals first | refine oC (gF rfl rfl rfl rfl rfl) ?_ | refine oC (gN rfl rfl rfl (oLt rfl rfl rfl)) ?_
    all_goals refine oC (oQ rfl rfl rfl rfl) ?_
    all_goals refine oN ?_
    all_goals exact Le.mk rfl (tlb rfl rfl rfl (tlb rfl rfl rfl (tlb rfl rfl rfl (tle rfl (by (simp_all; try omega)) rfl tln)))) (olk rfl (by exact bN) (olk rfl (by exact obOkS rfl) (olk rfl (by exact bC) (olk rfl (by exact obOkS0) oln)))) (hU (a := [(1, .arr ns)]) rfl)
  refine aC rfl (fun h => ?_) (fun h => ?_)
  · all_goals refine aS (aR ?_)
    all_goals refine oC (oF f38_2_WrldS rfl rfl) ?_
    all_goals refine oC (op_ldm ty36_OListVote rfl rfl rfl) ?_
    all_goals refine oC (oD ty78 rfl rfl rfl) ?_
    all_goals refine oC (oLM (s := 18) (ol := []) (ol' := []) (pre := []) fb128 (.nil _) rfl (.cons rfl (Conv.of rfl) (.nil _)) (l3Add_ct w.log v hl.l' hv) ols0 k0 k0 rfl argO0 (argOk' rfl rfl argO0) (fun o ho => absurd (show o ∈ ([] : List Nat) from ho) (by simp)) (fun o ho => absurd (show o ∈ ([] : List Nat) from ho) (by simp)) rfl) ?_
    all_goals refine oC (op_mvo rfl rfl rfl rfl) ?_
    all_goals refine oC (op_extm rfl rfl rfl rfl) ?_
    all_goals refine oC (op_ext rfl rfl rfl) ?_
    all_goals refine oC (op_asl rfl rfl rfl rfl) ?_
    all_goals refine oC (oA rfl (Conv.of rfl) rfl) ?_
    all_goals refine oN ?_
    all_goals refine aR ?_
    all_goals refine oC (op_mvl rfl rfl rfl rfl) ?_
    all_goals refine oC (oF f38_2_WrldS rfl rfl) ?_
    all_goals refine oC (op_stm ty36_OListVote rfl rfl rfl) ?_
    all_goals refine oN ?_
    all_goals refine aS (aR ?_)
    all_goals refine oC (op_ldm tW rfl rfl rfl) ?_
    all_goals refine oC (op_stm tW rfl rfl rfl) ?_
    all_goals refine oN ?_
    refine aT ?_
    repeat first | refine rS ?_ | refine rB ?_
    refine ⟨_, _, res1C (ol := [(1, .arr ns)]) tW rfl rfl (fun o ho => ?_) (olk rfl bN oln) (hU rfl), ?_, rfl⟩
    · have : o = 1 := by simpa using (show o ∈ [1] from ho)
      subst this; rfl
    · simp only [Bool.and_eq_true, decide_eq_true_eq] at h
      obtain ⟨rfl, h2⟩ := h
      show AV.v (WrldS.mk w.epoch (.ref 1) ⟨if decide (v ∈ w.log) then w.log else w.log ++ [v], true⟩ w.bad) = _
      by_cases hm : v ∈ w.log <;> simp [sendF, hm, h2, sW]
  · refine aW ?_
    all_goals refine aS (aR ?_)
    all_goals refine oC (op_ldm tW rfl rfl rfl) ?_
    all_goals refine oC (op_stm tW rfl rfl rfl) ?_
    all_goals refine oN ?_
    refine aT ?_
    repeat first | refine rS ?_ | refine rB ?_
    refine ⟨_, _, res1C (ol := [(1, .arr ns)]) tW rfl rfl (fun o ho => ?_) (olk rfl bN oln) (hU rfl), ?_, rfl⟩
    · have : o = 1 := by simpa using (show o ∈ [1] from ho)
      subst this; rfl
    · show AV.v (sW w) = _
      cases ok with
      | false => rfl
      | true =>
        have h2 : ¬ w.log.length < 80 := by simpa using h
        simp [sendF, h2]
        rfl
end Go.Proofs.YtgfoeiieopnlaaaGreatDoor

/- The reference: room for votes. -/
set_option linter.unusedVariables false
set_option linter.unusedSimpArgs false
namespace Go.Proofs.YtgfoeiieopnlaaaGreatDoor
open Go Go.Wt
theorem l21Room_ct (w : Wrld) (ns : List NodS) : CtO Tryz.prog 90 [.v (fW w)] [(1, .arr ns)] (.v (decide (w.log.length < 80))) [(1, .arr ns)] := by
  unfold fW
  refine Ct.intro Tryz.func90 rfl rfl ?_
  refine aS (aR ?_)
  refine oC (op_box (o := 5) tW rfl (Conv.of rfl) rfl rfl) ?_
  refine oC (oA rfl (Conv.of rfl) rfl) ?_
  refine oN ?_
  refine aS (aR ?_)
  refine oC (oF f38_2_WrldS rfl rfl) ?_
  refine oC (op_ldl ty36_OListVote rfl rfl rfl) ?_
  refine oC (oE sl36 rfl rfl) ?_
  refine oC (oLt rfl rfl rfl) ?_
  refine oC (oA rfl (Conv.of rfl) rfl) ?_
  refine oN ?_
  refine aT ?_
  repeat first | refine rS ?_ | refine rB ?_
  refine finO1 [(1, .arr ns)] (.v rfl (Conv.of rfl)) (fun o ho => by cases ho) (olk rfl bN oln) (hK rfl) ?_
  show AV.v _ = AV.v _
  congr 1
  rw [decide_eq_decide]
  show (w.log.length : Int) < 80 ↔ _
  omega
end Go.Proofs.YtgfoeiieopnlaaaGreatDoor

/- The reference: a new world. -/
set_option linter.unusedVariables false
set_option linter.unusedSimpArgs false
namespace Go.Proofs.YtgfoeiieopnlaaaGreatDoor
open Go Go.Wt
def newC (i : Int) : NodC := ⟨i, 0, 0, ⟨[]⟩⟩
theorem sWorldNew_ct (bad : Int) (hb : within bad 0 4 = true) : Ct Tryz.prog 28 [.v bad] noObj (fun r1 h1 => r1 = .tup [.v (sW (newW bad)), .v true] ∧ h1 = obs [(1, .arr ([newC 1, newC 2, newC 3, newC 4] : List NodC))]) := by
  refine Ct.intro Tryz.func28 rfl rfl ?_
  refine aS (aR ?_)
  refine oC (oX (o := 5) z38_WrldS rfl rfl) ?_
  refine oC (oA rfl (Conv.of rfl) rfl) ?_
  refine oN ?_
  refine aS (aS (aR ?_))
  refine oC (oM rfl (Conv.of rfl) rfl) ?_
  refine oC (oL fb54 (.cons rfl (Conv.of rfl) (.cons rfl (Conv.of rfl) (.cons rfl (Conv.of rfl) (.nil _)))) (l6In_ct _ _ _) (aK rfl rfl (aK rfl rfl (aK rfl rfl aK0))) rfl rfl) ?_
  refine oC (op_not rfl rfl) ?_
  refine oN ?_
  refine aC rfl (fun h => absurd (not_t h) (by rw [hb]; decide)) (fun h => ?_)
  refine aW ?_
  refine aS (aR ?_)
  refine oC (oM rfl (Conv.of rfl) rfl) ?_
  refine oC (op_bsc sl36 z78 (.nil _) rfl (by decide) rfl) ?_
  refine oC (op_build (.cons f38_3_WrldS rfl (Conv.of rfl) (.cons f38_2_WrldS rfl (Conv.co) (.nil _))) z38_WrldS rfl pl38 rfl) ?_
  refine oC (oX (o := 0) z38_WrldS rfl rfl) ?_
  refine oC (op_stm tW rfl rfl rfl) ?_
  refine oN ?_
  refine aS (aS (aR ?_))
  refine oC (oA rfl (Conv.of rfl) rfl) ?_
  refine oN ?_
  refine aB ?_
  refine awp_loop' (fun n s => (n = 4 ∧ s = mkSt 31 [(2, .box 5 (IsLens.whole WrldS)), (4, .box 0 (IsLens.whole WrldS)), (5, .v (1 : Int))] [(0, .cell (WrldS.mk 0 .nil ⟨[], true⟩ bad)), (5, .cell WrldS.zero)]) ∨ (n = 3 ∧ s = mkSt 31 [(2, .box 5 (IsLens.whole WrldS)), (4, .box 0 (IsLens.whole WrldS)), (5, .v (2 : Int))] [(0, .cell (WrldS.mk 0 (.ref 11) ⟨[], true⟩ bad)), (5, .cell WrldS.zero), (11, .arr ([newC 1] : List NodC))]) ∨ (n = 2 ∧ s = mkSt 31 [(2, .box 5 (IsLens.whole WrldS)), (4, .box 0 (IsLens.whole WrldS)), (5, .v (3 : Int))] [(0, .cell (WrldS.mk 0 (.ref 12) ⟨[], true⟩ bad)), (5, .cell WrldS.zero), (12, .arr ([newC 1, newC 2] : List NodC))]) ∨ (n = 1 ∧ s = mkSt 31 [(2, .box 5 (IsLens.whole WrldS)), (4, .box 0 (IsLens.whole WrldS)), (5, .v (4 : Int))] [(0, .cell (WrldS.mk 0 (.ref 13) ⟨[], true⟩ bad)), (5, .cell WrldS.zero), (13, .arr ([newC 1, newC 2, newC 3] : List NodC))]) ∨ (n = 0 ∧ s = mkSt 31 [(2, .box 5 (IsLens.whole WrldS)), (4, .box 0 (IsLens.whole WrldS)), (5, .v (5 : Int))] [(0, .cell (WrldS.mk 0 (.ref 1) ⟨[], true⟩ bad)), (5, .cell WrldS.zero), (1, .arr ([newC 1, newC 2, newC 3, newC 4] : List NodC))])) 4 (.inl ⟨rfl, rfl⟩) (Le.mk rfl (tlb rfl rfl rfl (tlb rfl rfl rfl (tle rfl (rfl) rfl tln))) (olk rfl (by exact obOkS0) (olk rfl (by exact obOkS0) oln)) noS) ?_
  rintro n s (⟨rfl, rfl⟩|⟨rfl, rfl⟩|⟨rfl, rfl⟩|⟨rfl, rfl⟩|⟨rfl, rfl⟩)
  · refine aS (aS (aR ?_))
    refine oC (oM rfl (Conv.of rfl) rfl) ?_
    refine oC (op_leq rfl rfl rfl) ?_
    refine oN ?_
    refine aC rfl (fun h => ?_) (fun h => absurd h (by decide))
    refine aW ?_
    refine aS (aB ?_)
    refine aS (aR ?_)
    refine oC (oM rfl (Conv.of rfl) rfl) ?_
    refine oC (oL fb55 (.cons rfl (Conv.of rfl) (.nil _)) (sNodeNew_ct 1 rfl) (aK rfl rfl aK0) rfl rfl) ?_
    refine oC (oM rfl (Conv.of rfl) rfl) ?_
    refine oC (op_ext rfl rfl rfl) ?_
    refine oC (op_ext rfl rfl rfl) ?_
    refine oC (oX (o := 6) z66_NodC rfl rfl) ?_
    refine oC (op_st ty66_NodC rfl rfl (Conv.of rfl) rfl) ?_
    refine oC (oA rfl (Conv.of rfl) rfl) ?_
    refine oN ?_
    refine aR ?_
    refine oC (oF f38_1_WrldS rfl rfl) ?_
    refine oC (oD ty35_NRef rfl rfl rfl) ?_
    refine oC (oD ty66_NodC rfl rfl rfl) ?_
    refine oC (op_bsl sl35_NodC z66_NodC (.cons rfl (Conv.of rfl) (.nil _)) rfl (by decide) rfl) ?_
    refine oC (op_apN (o' := 11) sl35_NodC z66_NodC ul35 rfl rfl rfl (by simp) (by simp) (by simp) rfl) ?_
    refine oC (oF f38_1_WrldS rfl rfl) ?_
    refine oC (op_st ty35_NRef rfl rfl (Conv.of rfl) rfl) ?_
    refine oN ?_
    refine aR ?_
    refine oC (oM rfl (Conv.of rfl) rfl) ?_
    refine oC (oP rfl rfl rfl (by omega)) ?_
    refine oC (oA rfl (Conv.of rfl) rfl) ?_
    refine oN ?_
    repeat first | refine nS ?_ | refine nB ?_
    exact ⟨3, _, by decide, .inr (.inl ⟨rfl, rfl⟩), Le.mk rfl (tlb rfl rfl rfl (tlb rfl rfl rfl (tle rfl (rfl) rfl tln))) (olk rfl (by exact obOkS rfl) (olk rfl (by exact obOkS0) (olk rfl (by exact bA) oln))) noS⟩
  · refine aS (aS (aR ?_))
    refine oC (oM rfl (Conv.of rfl) rfl) ?_
    refine oC (op_leq rfl rfl rfl) ?_
    refine oN ?_
    refine aC rfl (fun h => ?_) (fun h => absurd h (by decide))
    refine aW ?_
    refine aS (aB ?_)
    refine aS (aR ?_)
    refine oC (oM rfl (Conv.of rfl) rfl) ?_
    refine oC (oL fb55 (.cons rfl (Conv.of rfl) (.nil _)) (sNodeNew_ct 2 rfl) (aK rfl rfl aK0) rfl rfl) ?_
    refine oC (oM rfl (Conv.of rfl) rfl) ?_
    refine oC (op_ext rfl rfl rfl) ?_
    refine oC (op_ext rfl rfl rfl) ?_
    refine oC (oX (o := 6) z66_NodC rfl rfl) ?_
    refine oC (op_st ty66_NodC rfl rfl (Conv.of rfl) rfl) ?_
    refine oC (oA rfl (Conv.of rfl) rfl) ?_
    refine oN ?_
    refine aR ?_
    refine oC (oF f38_1_WrldS rfl rfl) ?_
    refine oC (oD ty35_NRef rfl rfl rfl) ?_
    refine oC (oD ty66_NodC rfl rfl rfl) ?_
    refine oC (op_bsl sl35_NodC z66_NodC (.cons rfl (Conv.of rfl) (.nil _)) rfl (by decide) rfl) ?_
    refine oC (op_apA (o' := 12) sl35_NodC z66_NodC ul35 rfl rfl rfl rfl (by simp) (by simp) (by simp) rfl) ?_
    refine oC (oF f38_1_WrldS rfl rfl) ?_
    refine oC (op_st ty35_NRef rfl rfl (Conv.of rfl) rfl) ?_
    refine oN ?_
    refine aR ?_
    refine oC (oM rfl (Conv.of rfl) rfl) ?_
    refine oC (oP rfl rfl rfl (by omega)) ?_
    refine oC (oA rfl (Conv.of rfl) rfl) ?_
    refine oN ?_
    repeat first | refine nS ?_ | refine nB ?_
    exact ⟨2, _, by decide, .inr (.inr (.inl ⟨rfl, rfl⟩)), Le.mk rfl (tlb rfl rfl rfl (tlb rfl rfl rfl (tle rfl (rfl) rfl tln))) (olk rfl (by exact obOkS rfl) (olk rfl (by exact obOkS0) (olk rfl (by exact bA) oln))) noS⟩
  · refine aS (aS (aR ?_))
    refine oC (oM rfl (Conv.of rfl) rfl) ?_
    refine oC (op_leq rfl rfl rfl) ?_
    refine oN ?_
    refine aC rfl (fun h => ?_) (fun h => absurd h (by decide))
    refine aW ?_
    refine aS (aB ?_)
    refine aS (aR ?_)
    refine oC (oM rfl (Conv.of rfl) rfl) ?_
    refine oC (oL fb55 (.cons rfl (Conv.of rfl) (.nil _)) (sNodeNew_ct 3 rfl) (aK rfl rfl aK0) rfl rfl) ?_
    refine oC (oM rfl (Conv.of rfl) rfl) ?_
    refine oC (op_ext rfl rfl rfl) ?_
    refine oC (op_ext rfl rfl rfl) ?_
    refine oC (oX (o := 6) z66_NodC rfl rfl) ?_
    refine oC (op_st ty66_NodC rfl rfl (Conv.of rfl) rfl) ?_
    refine oC (oA rfl (Conv.of rfl) rfl) ?_
    refine oN ?_
    refine aR ?_
    refine oC (oF f38_1_WrldS rfl rfl) ?_
    refine oC (oD ty35_NRef rfl rfl rfl) ?_
    refine oC (oD ty66_NodC rfl rfl rfl) ?_
    refine oC (op_bsl sl35_NodC z66_NodC (.cons rfl (Conv.of rfl) (.nil _)) rfl (by decide) rfl) ?_
    refine oC (op_apA (o' := 13) sl35_NodC z66_NodC ul35 rfl rfl rfl rfl (by simp) (by simp) (by simp) rfl) ?_
    refine oC (oF f38_1_WrldS rfl rfl) ?_
    refine oC (op_st ty35_NRef rfl rfl (Conv.of rfl) rfl) ?_
    refine oN ?_
    refine aR ?_
    refine oC (oM rfl (Conv.of rfl) rfl) ?_
    refine oC (oP rfl rfl rfl (by omega)) ?_
    refine oC (oA rfl (Conv.of rfl) rfl) ?_
    refine oN ?_
    repeat first | refine nS ?_ | refine nB ?_
    exact ⟨1, _, by decide, .inr (.inr (.inr (.inl ⟨rfl, rfl⟩))), Le.mk rfl (tlb rfl rfl rfl (tlb rfl rfl rfl (tle rfl (rfl) rfl tln))) (olk rfl (by exact obOkS rfl) (olk rfl (by exact obOkS0) (olk rfl (by exact bA) oln))) noS⟩
  · refine aS (aS (aR ?_))
    refine oC (oM rfl (Conv.of rfl) rfl) ?_
    refine oC (op_leq rfl rfl rfl) ?_
    refine oN ?_
    refine aC rfl (fun h => ?_) (fun h => absurd h (by decide))
    refine aW ?_
    refine aS (aB ?_)
    refine aS (aR ?_)
    refine oC (oM rfl (Conv.of rfl) rfl) ?_
    refine oC (oL fb55 (.cons rfl (Conv.of rfl) (.nil _)) (sNodeNew_ct 4 rfl) (aK rfl rfl aK0) rfl rfl) ?_
    refine oC (oM rfl (Conv.of rfl) rfl) ?_
    refine oC (op_ext rfl rfl rfl) ?_
    refine oC (op_ext rfl rfl rfl) ?_
    refine oC (oX (o := 6) z66_NodC rfl rfl) ?_
    refine oC (op_st ty66_NodC rfl rfl (Conv.of rfl) rfl) ?_
    refine oC (oA rfl (Conv.of rfl) rfl) ?_
    refine oN ?_
    refine aR ?_
    refine oC (oF f38_1_WrldS rfl rfl) ?_
    refine oC (oD ty35_NRef rfl rfl rfl) ?_
    refine oC (oD ty66_NodC rfl rfl rfl) ?_
    refine oC (op_bsl sl35_NodC z66_NodC (.cons rfl (Conv.of rfl) (.nil _)) rfl (by decide) rfl) ?_
    refine oC (op_apA (o' := 1) sl35_NodC z66_NodC ul35 rfl rfl rfl rfl (by simp) (by simp) (by simp) rfl) ?_
    refine oC (oF f38_1_WrldS rfl rfl) ?_
    refine oC (op_st ty35_NRef rfl rfl (Conv.of rfl) rfl) ?_
    refine oN ?_
    refine aR ?_
    refine oC (oM rfl (Conv.of rfl) rfl) ?_
    refine oC (oP rfl rfl rfl (by omega)) ?_
    refine oC (oA rfl (Conv.of rfl) rfl) ?_
    refine oN ?_
    repeat first | refine nS ?_ | refine nB ?_
    exact ⟨0, _, by decide, .inr (.inr (.inr (.inr (⟨rfl, rfl⟩)))), Le.mk rfl (tlb rfl rfl rfl (tlb rfl rfl rfl (tle rfl (rfl) rfl tln))) (olk rfl (by exact obOkS rfl) (olk rfl (by exact obOkS0) (olk rfl (by exact bA) oln))) noS⟩
  · refine aS (aS (aR ?_))
    refine oC (oM rfl (Conv.of rfl) rfl) ?_
    refine oC (op_leq rfl rfl rfl) ?_
    refine oN ?_
    refine aC rfl (fun h => absurd h (by decide)) (fun h => ?_)
    refine aE ?_
    repeat refine ex_seq ?_
    refine eB ?_
    refine aS (aR ?_)
    refine oC (op_ldm tW rfl rfl rfl) ?_
    refine oC (op_stm tW rfl rfl rfl) ?_
    refine oC (oA rfl (Conv.of rfl) rfl) ?_
    refine oN ?_
    refine aT ?_
    repeat first | refine rS ?_ | refine rB ?_
    refine ⟨_, _, rNM (ol := [(1, .arr ([newC 1, newC 2, newC 3, newC 4] : List NodC))]) (.cell tW rfl rfl (.keep (.v rfl (Conv.of rfl)) (.nil _))) rfl (fun o ho => ?_) (olk rfl bA oln) noS, rfl, rfl⟩
    have : o = 1 := by simpa using (show o ∈ [1] from ho)
    subst this; rfl
end Go.Proofs.YtgfoeiieopnlaaaGreatDoor

/- The reference: a node hears. -/
set_option linter.unusedVariables false
set_option linter.unusedSimpArgs false
namespace Go.Proofs.YtgfoeiieopnlaaaGreatDoor
open Go Go.Wt
set_option maxHeartbeats 2000000 in
theorem l12Try_ct (n : Nod) (hn : Gd n.seen) (he : 0 ≤ n.epoch ∧ n.epoch ≤ 30) : CtP Tryz.prog 129 [.v (sN n)] (res3S (tryAllS n)) := by
  have htip := hn.tipS
  have hlen := hn.len
  refine Ct.intro Tryz.func129 rfl rfl ?_
  all_goals refine aS (aR ?_)
  all_goals refine oC (op_boxm (o := 0) tN rfl rfl rfl rfl) ?_
  all_goals refine oC (oX (o := 1) z66_NodS rfl rfl) ?_
  all_goals refine oC (oX (o := 2) z78 rfl rfl) ?_
  all_goals refine oC (oA rfl (Conv.of rfl) rfl) ?_
  all_goals refine oN ?_
  refine aS (aST (s' := mkSt 51 [(1, .box 0 (IsLens.whole NodS)), (2, .box 1 (IsLens.whole NodS)), (3, .box 2 (IsLens.whole Vote)), (4, .v false), (16, .v (decide (n.epoch = 0) || decide (n.voted = n.epoch)))] [(0, .cell (sN n)), (1, .cell NodS.zero), (2, .cell Vote.zero)]) ?_ ?_)
  · all_goals refine aR ?_
    all_goals refine oC (oF f66_1_NodS rfl rfl) ?_
    all_goals refine oC (oD ty3 rfl rfl rfl) ?_
    all_goals refine oC (op_eql rfl rfl rfl) ?_
    all_goals refine oC (oM rfl (Conv.of rfl) rfl) ?_
    all_goals refine g_split (t := 10) rfl (fun h => ?_) (fun h => ?_)
    all_goals first | refine oC (gF rfl rfl rfl rfl rfl) ?_ | refine oC (gN rfl rfl rfl (oF f66_2_NodS rfl rfl)) ?_
    all_goals first | refine oC (gF rfl rfl rfl rfl rfl) ?_ | refine oC (gN rfl rfl rfl (oD ty3 rfl rfl rfl)) ?_
    all_goals first | refine oC (gF rfl rfl rfl rfl rfl) ?_ | refine oC (gN rfl rfl rfl (oF f66_1_NodS rfl rfl)) ?_
    all_goals first | refine oC (gF rfl rfl rfl rfl rfl) ?_ | refine oC (gN rfl rfl rfl (oD ty3 rfl rfl rfl)) ?_
    all_goals first | refine oC (gF rfl rfl rfl rfl rfl) ?_ | refine oC (gN rfl rfl rfl (op_eql rfl rfl rfl)) ?_
    all_goals refine oC (oQ rfl rfl rfl rfl) ?_
    all_goals refine oN ?_
    all_goals exact Le.mk rfl (tlb rfl rfl rfl (tlb rfl rfl rfl (tlb rfl rfl rfl (tle rfl (rfl) rfl (tle rfl (by (clear htip; simp_all [sN]; try (rw [Bool.eq_iff_iff]; simp))) rfl tln))))) (olk rfl (by exact obOkN) (olk rfl (by exact obOkN) (olk rfl (by exact bC) oln))) noS
  refine aC rfl (fun h => ?_) (fun h => ?_)
  · all_goals refine aS (aR ?_)
    all_goals refine oC (op_ldm tN rfl rfl rfl) ?_
    all_goals refine oC (op_build (.nil _) z78 rfl pl78 rfl) ?_
    all_goals refine oC (op_stm tN rfl rfl rfl) ?_
    all_goals refine oC (op_st ty78 rfl rfl (Conv.of rfl) rfl) ?_
    all_goals refine oC (oA rfl (Conv.of rfl) rfl) ?_
    all_goals refine oN ?_
    refine aT ?_
    repeat first | refine rS ?_ | refine rB ?_
    refine ⟨_, _, rNM (ol := []) (.cell tN rfl rfl (.keep (.rc ty78 rfl rfl) (.keep (.v rfl (Conv.of rfl)) (.nil _)))) rfl (fun o ho => absurd (show o ∈ ([] : List Nat) from ho) (by simp)) oln noS, ?_, rfl⟩
    rw [tryAllS, h, if_pos rfl]; rfl
  · have hres : tryAllS n = tryS n (tipOfS n.seen).length n.seen := by rw [tryAllS, h]; rfl
    refine aW ?_
    all_goals refine aS (aR ?_)
    all_goals refine oC (oF f66_3_NodS rfl rfl) ?_
    all_goals refine oC (op_ldl ty36_OListVote rfl rfl rfl) ?_
    all_goals refine oC (oL fb125 (.cons rfl (Conv.of rfl) (.nil _)) (l11Tip_ct _ hn.l hn.v) (aK rfl rfl aK0) rfl rfl) ?_
    all_goals refine oC (oE sl72 rfl rfl) ?_
    all_goals refine oC (oA rfl (Conv.of rfl) rfl) ?_
    all_goals refine oN ?_
    all_goals refine aS (aS (aR ?_))
    all_goals refine oC (oA rfl (Conv.of rfl) rfl) ?_
    all_goals refine oN ?_
    refine aB ?_
    refine awp_loop' (fun n_ s => ∃ (k : Nat), ∃ (hk : n_ + k = n.seen.length), ∃ (hall : tryS n (tipOfS n.seen).length (n.seen.drop k) = tryAllS n), s = mkSt 51 [(1, .box 0 (IsLens.whole NodS)), (2, .box 1 (IsLens.whole NodS)), (3, .box 2 (IsLens.whole Vote)), (5, .v ((tipOfS n.seen).length : Int)), (6, .v (k : Int))] [(0, .cell (sN n)), (1, .cell NodS.zero), (2, .cell Vote.zero)]) (n.seen.length) ⟨0, by omega, by rw [hres]; rfl, rfl⟩ (Le.mk rfl (tlb rfl rfl rfl (tlb rfl rfl rfl (tlb rfl rfl rfl (tle rfl (rfl) rfl (tle rfl (rfl) rfl tln))))) (olk rfl (by exact obOkN) (olk rfl (by exact obOkN) (olk rfl (by exact bC) oln))) noS) ?_
    rintro n_ s ⟨k, hk, hall, rfl⟩
    all_goals refine aS (aS (aR ?_))
    all_goals refine oC (oM rfl (Conv.of rfl) rfl) ?_
    all_goals refine oC (oF f66_3_NodS rfl rfl) ?_
    all_goals refine oC (op_ldl ty36_OListVote rfl rfl rfl) ?_
    all_goals refine oC (oE sl36 rfl rfl) ?_
    all_goals refine oC (oLt rfl rfl rfl) ?_
    all_goals refine oN ?_
    refine aC rfl (fun h2 => ?_) (fun h2 => ?_)
    · have hlt : k < n.seen.length := by simpa [sN] using h2
      have hx : n.seen[k]? = some n.seen[k] := List.getElem?_eq_getElem hlt
      have hx' : (sN n).seen.l[(k : Int).toNat]? = some n.seen[k] := hx
      have huo := hn.ok _ (List.getElem_mem hlt)
      have hup := voteOk_pos huo
      have hstep := tryS_drop n (tipOfS n.seen).length hx
      refine aW ?_
      refine aS (aB ?_)
      all_goals refine aS (dS ?_)
      all_goals refine dC (op_ldd tN rfl rfl rfl) ?_
      all_goals refine dC (oF f66_3_NodS rfl rfl) ?_
      all_goals refine dC (op_ldl ty36_OListVote rfl rfl rfl) ?_
      all_goals refine dC (oM rfl (Conv.of rfl) rfl) ?_
      all_goals refine dC (op_ix sl36 rfl rfl rfl (by omega) hx') ?_
      all_goals refine dC (oDR ty78 rfl rfl) ?_
      all_goals refine dC (oM rfl (Conv.of rfl) rfl) ?_
      all_goals refine dC (oL fb158 (.cons rfl (Conv.of rfl) (.cons rfl (Conv.of rfl) (.cons rfl (Conv.of rfl) (.nil _)))) (l12Fits_ct n n.seen[k] (tipOfS n.seen).length hup he) (aK rfl rfl (aK rfl rfl (aK rfl rfl aK0))) rfl rfl) ?_
      all_goals refine dr_nil mixed rfl ?_
      refine aC rfl (fun h3 => ?_) (fun h3 => ?_)
      · refine aS ?_
        refine awp_park (s := 37) (o := 0) (tb := 1) rfl rfl rfl (fun hv => ?_)
        refine dg_start 8 ?_
        all_goals refine dg_cons (oD ty66_NodH rfl rfl rfl) ?_
        all_goals refine dg_cons (oF f66_3_NodH rfl rfl) ?_
        all_goals refine dg_cons (oD ty36_HListVote rfl rfl rfl) ?_
        all_goals refine dg_cons (oM rfl (Conv.of rfl) rfl) ?_
        all_goals refine dg_cons (op_ix sl36 rfl rfl rfl (by omega) hx') ?_
        all_goals refine dg_cons (oFR f78_1 rfl rfl) ?_
        all_goals refine dg_cons (oDR ty72 rfl rfl) ?_
        refine dg_cons (op_callP (r := 37) rfl fb127 rfl rfl (.cons rfl (Conv.of rfl) (.nil _)) (l12Vote_ct n _ hn (voteOk_len huo)) (aK rfl rfl aK0) rfl rfl) ?_
        refine dg_bar (fun hv' => _) mixed rfl rfl (parkT (t := 45) (r := 37) rfl rfl rfl) (fun hv' => ?_)
        all_goals refine dg_cons (op_ext rfl rfl rfl) ?_
        all_goals refine dg_cons (op_ext rfl rfl rfl) ?_
        all_goals refine dg_cons (op_ext rfl rfl rfl) ?_
        refine dg_cons (op_stP (s := 46) (r := 37) rfl tN rfl rfl rfl rfl) ?_
        all_goals refine dg_cons (op_st ty78 rfl rfl (Conv.of rfl) rfl) ?_
        all_goals refine dg_cons (oA rfl (Conv.of rfl) rfl) ?_
        refine dg_nil rfl ?_
        refine aT ?_
        repeat first | refine rS ?_ | refine rB ?_
        refine ⟨_, _, rNM (ol := []) (.cell tN rfl rfl (.keep (.rc ty78 rfl rfl) (.keep (.v rfl (Conv.of rfl)) (.nil _)))) rfl (fun o ho => absurd (show o ∈ ([] : List Nat) from ho) (by simp)) oln noS, ?_, rfl⟩
        rw [← hall, hstep, if_pos h3]; rfl
      · refine aW ?_
        all_goals refine aR ?_
        all_goals refine oC (oM rfl (Conv.of rfl) rfl) ?_
        all_goals refine oC (oP rfl rfl rfl (by omega)) ?_
        all_goals refine oC (oA rfl (Conv.of rfl) rfl) ?_
        all_goals refine oN ?_
        repeat first | refine nS ?_ | refine nB ?_
        exact ⟨n_ - 1, _, by omega, ⟨k + 1, by omega, by rw [← hall, hstep, if_neg (by rw [h3]; decide)], rfl⟩, Le.mk rfl (tlb rfl rfl rfl (tlb rfl rfl rfl (tlb rfl rfl rfl (tle rfl (rfl) rfl (tle rfl (rfl) rfl tln))))) (olk rfl (by exact obOkN) (olk rfl (by exact obOkN) (olk rfl (by exact bC) oln))) noS⟩
    · refine aE ?_
      repeat refine ex_seq ?_
      refine eB ?_
      have hk : n.seen.length ≤ k := by simpa [sN] using h2
      all_goals refine aS (aR ?_)
      all_goals refine oC (op_ldm tN rfl rfl rfl) ?_
      all_goals refine oC (op_build (.nil _) z78 rfl pl78 rfl) ?_
      all_goals refine oC (op_stm tN rfl rfl rfl) ?_
      all_goals refine oC (op_st ty78 rfl rfl (Conv.of rfl) rfl) ?_
      all_goals refine oC (oA rfl (Conv.of rfl) rfl) ?_
      all_goals refine oN ?_
      refine aT ?_
      repeat first | refine rS ?_ | refine rB ?_
      refine ⟨_, _, rNM (ol := []) (.cell tN rfl rfl (.keep (.rc ty78 rfl rfl) (.keep (.v rfl (Conv.of rfl)) (.nil _)))) rfl (fun o ho => absurd (show o ∈ ([] : List Nat) from ho) (by simp)) oln noS, ?_, rfl⟩
      rw [← hall, drop_end hk]; rfl
theorem l12Hear_ct (n : Nod) (v : Vote) (hn : Gd n.seen) (he : 0 ≤ n.epoch ∧ n.epoch ≤ 30) (hv : v.chain.length ≤ 1000000) : CtP Tryz.prog 94 [.v (sN n), .v v] (res3S (hearS n v)) := by
  refine Ct.intro Tryz.func94 rfl rfl ?_
  all_goals refine aS (aR ?_)
  all_goals refine oC (op_boxm (o := 0) tN rfl rfl rfl rfl) ?_
  all_goals refine oC (op_box (o := 1) ty78 rfl (Conv.of rfl) rfl rfl) ?_
  all_goals refine oC (oX (o := 2) z66_NodS rfl rfl) ?_
  all_goals refine oC (oX (o := 3) z78 rfl rfl) ?_
  all_goals refine oC (oA rfl (Conv.of rfl) rfl) ?_
  all_goals refine oN ?_
  refine aS (aST (s' := mkSt 41 [(2, .box 0 (IsLens.whole NodS)), (3, .box 1 (IsLens.whole Vote)), (4, .box 2 (IsLens.whole NodS)), (5, .box 3 (IsLens.whole Vote)), (6, .v false), (24, .v (!(voteOk v && !decide (v.by_ = n.id) && decide (n.seen.length < 80))))] [(0, .cell (sN n)), (1, .cell v), (2, .cell NodS.zero), (3, .cell Vote.zero)]) ?_ ?_)
  · all_goals refine aR ?_
    all_goals refine oC (oD ty78 rfl rfl rfl) ?_
    all_goals refine oC (oL fb95 (.cons rfl (Conv.of rfl) (.nil _)) (l3Vote_ct _) (aK rfl rfl aK0) rfl rfl) ?_
    all_goals refine oC (op_not rfl rfl) ?_
    all_goals refine oC (oM rfl (Conv.of rfl) rfl) ?_
    all_goals refine g_split (t := 12) rfl (fun h => ?_) (fun h => ?_)
    all_goals first | refine oC (gF rfl rfl rfl rfl rfl) ?_ | refine oC (gN rfl rfl rfl (oF f78_0 rfl rfl)) ?_
    all_goals first | refine oC (gF rfl rfl rfl rfl rfl) ?_ | refine oC (gN rfl rfl rfl (oD ty3 rfl rfl rfl)) ?_
    all_goals first | refine oC (gF rfl rfl rfl rfl rfl) ?_ | refine oC (gN rfl rfl rfl (oF f66_0_NodS rfl rfl)) ?_
    all_goals first | refine oC (gF rfl rfl rfl rfl rfl) ?_ | refine oC (gN rfl rfl rfl (oD ty3 rfl rfl rfl)) ?_
    all_goals first | refine oC (gF rfl rfl rfl rfl rfl) ?_ | refine oC (gN rfl rfl rfl (op_eql rfl rfl rfl)) ?_
    all_goals refine oC (oQ rfl rfl rfl rfl) ?_
    all_goals refine oC (oM rfl (Conv.of rfl) rfl) ?_
    all_goals first | refine g_lit (t := 19) (b := true) rfl ?_ | refine g_split (t := 19) rfl (fun h => ?_) (fun h => ?_)
    all_goals first | refine oC (gF rfl rfl rfl rfl rfl) ?_ | refine oC (gN rfl rfl rfl (oF f66_3_NodS rfl rfl)) ?_
    all_goals first | refine oC (gF rfl rfl rfl rfl rfl) ?_ | refine oC (gN rfl rfl rfl (op_ldl ty36_OListVote rfl rfl rfl)) ?_
    all_goals first | refine oC (gF rfl rfl rfl rfl rfl) ?_ | refine oC (gN rfl rfl rfl (oE sl36 rfl rfl)) ?_
    all_goals first | refine oC (gF rfl rfl rfl rfl rfl) ?_ | refine oC (gN rfl rfl rfl (op_geq rfl rfl rfl)) ?_
    all_goals refine oC (oQ rfl rfl rfl rfl) ?_
    all_goals refine oN ?_
    all_goals exact Le.mk rfl (tlb rfl rfl rfl (tlb rfl rfl rfl (tlb rfl rfl rfl (tlb rfl rfl rfl (tle rfl (rfl) rfl (tle rfl (by (simp_all [sN]; try (rw [Bool.eq_iff_iff]; simp; try omega); try (exact ⟨fun hh => by have := of_decide_eq_true hh; omega, fun hh => decide_eq_true (by omega)⟩))) rfl tln)))))) (olk rfl (by exact obOkN) (olk rfl (by exact bC) (olk rfl (by exact obOkN) (olk rfl (by exact bC) oln)))) noS
  refine aC rfl (fun h => ?_) (fun h => ?_)
  · all_goals refine aS (aR ?_)
    all_goals refine oC (op_ldm tN rfl rfl rfl) ?_
    all_goals refine oC (op_build (.nil _) z78 rfl pl78 rfl) ?_
    all_goals refine oC (op_stm tN rfl rfl rfl) ?_
    all_goals refine oC (op_st ty78 rfl rfl (Conv.of rfl) rfl) ?_
    all_goals refine oC (oA rfl (Conv.of rfl) rfl) ?_
    all_goals refine oN ?_
    refine aT ?_
    repeat first | refine rS ?_ | refine rB ?_
    refine ⟨_, _, rNM (ol := []) (.cell tN rfl rfl (.keep (.rc ty78 rfl rfl) (.keep (.v rfl (Conv.of rfl)) (.nil _)))) rfl (fun o ho => absurd (show o ∈ ([] : List Nat) from ho) (by simp)) oln noS, ?_, rfl⟩
    rw [hearS, not_t h]; rfl
  · have h0 := not_f h
    have h0' := h0
    simp only [Bool.and_eq_true] at h0'
    have hvo : voteOk v = true := h0'.1.1
    have hlen : n.seen.length < 80 := by simpa using h0'.2
    have hgd := seeF_gd hn hvo hlen
    have hep : (seeF n v).epoch = n.epoch := by unfold seeF; split <;> rfl
    refine aW ?_
    all_goals refine aS (aR ?_)
    all_goals refine oC (oF f66_3_NodS rfl rfl) ?_
    all_goals refine oC (op_ldm ty36_OListVote rfl rfl rfl) ?_
    all_goals refine oC (oD ty78 rfl rfl rfl) ?_
    all_goals refine oC (oLM (s := 29) (ol := []) (ol' := []) (pre := []) fb128 (.nil _) rfl (.cons rfl (Conv.of rfl) (.nil _)) (l3Add_ct n.seen v hn.l' hv) ols0 k0 k0 rfl argO0 (argOk' rfl rfl argO0) (fun o ho => absurd (show o ∈ ([] : List Nat) from ho) (by simp)) (fun o ho => absurd (show o ∈ ([] : List Nat) from ho) (by simp)) rfl) ?_
    all_goals refine oC (op_mvo rfl rfl rfl rfl) ?_
    all_goals refine oC (op_extm rfl rfl rfl rfl) ?_
    all_goals refine oC (op_ext rfl rfl rfl) ?_
    all_goals refine oC (op_asl rfl rfl rfl rfl) ?_
    all_goals refine oC (oA rfl (Conv.of rfl) rfl) ?_
    all_goals refine oN ?_
    refine aST (s' := mkSt 41 [(2, .box 0 (IsLens.whole NodS)), (4, .box 2 (IsLens.whole NodS)), (5, .box 3 (IsLens.whole Vote))] [(0, .cell (sN (seeF n v))), (2, .cell NodS.zero), (3, .cell Vote.zero)]) ?_ ?_
    · all_goals refine aR ?_
      all_goals refine oC (op_mvl rfl rfl rfl rfl) ?_
      all_goals refine oC (oF f66_3_NodS rfl rfl) ?_
      all_goals refine oC (op_stm ty36_OListVote rfl rfl rfl) ?_
      all_goals refine oN ?_
      all_goals exact Le.mk rfl (tlb rfl rfl rfl (tlb rfl rfl rfl (tlb rfl rfl rfl tln))) (olk (by (by_cases hm : v ∈ n.seen <;> simp [seeF, sN, hm] <;> rfl)) (by exact obOkN) (olk rfl (by exact obOkN) (olk rfl (by exact bC) oln))) noS
    all_goals refine aS (aR ?_)
    all_goals refine oC (op_ldm tN rfl rfl rfl) ?_
    all_goals refine oC (oLM (s := 36) (ol := []) (ol' := []) (pre := []) fb129 (.nil _) rfl (.nil _) (l12Try_ct (seeF n v) hgd (by rw [hep]; exact he)) ols0 k0 k0 rfl argO0 argO0 (fun o ho => absurd (show o ∈ ([] : List Nat) from ho) (by simp)) (fun o ho => absurd (show o ∈ ([] : List Nat) from ho) (by simp)) rfl) ?_
    all_goals refine oC (op_extm rfl rfl rfl rfl) ?_
    all_goals refine oC (op_ext rfl rfl rfl) ?_
    all_goals refine oC (op_ext rfl rfl rfl) ?_
    all_goals refine oC (op_stm tN rfl rfl rfl) ?_
    all_goals refine oC (op_st ty78 rfl rfl (Conv.of rfl) rfl) ?_
    all_goals refine oC (oA rfl (Conv.of rfl) rfl) ?_
    all_goals refine oN ?_
    refine aT ?_
    repeat first | refine rS ?_ | refine rB ?_
    refine ⟨_, _, rNM (ol := []) (.cell tN rfl rfl (.keep (.rc ty78 rfl rfl) (.keep (.v rfl (Conv.of rfl)) (.nil _)))) rfl (fun o ho => absurd (show o ∈ ([] : List Nat) from ho) (by simp)) oln noS, ?_, rfl⟩
    rw [hearS, h0, if_pos rfl]; rfl
end Go.Proofs.YtgfoeiieopnlaaaGreatDoor

/- The reference: a node of a world proposes, or hears. -/
set_option linter.unusedVariables false
set_option linter.unusedSimpArgs false
namespace Go.Proofs.YtgfoeiieopnlaaaGreatDoor
open Go Go.Wt
theorem l12Propose_w (n : Nod) (p : Pay) (h : nodeOk n = true) : CtP Tryz.prog 91 [.v (sN n), .v p] (res3S (proposeF n p)) := by
  obtain ⟨⟨h1, h2, h3, h4, h5⟩, h6⟩ := nodeOk_iff.1 h
  rw [← proposeS_eq p h5 h2]
  exact l12Propose_ct n p ⟨by omega, votesOk_mem h5⟩ h2
theorem l12Hear_w (n : Nod) (v : Vote) (h : nodeOk n = true) (hv : v.chain.length ≤ 1000000) : CtP Tryz.prog 94 [.v (sN n), .v v] (res3S (hearF n v)) := by
  obtain ⟨⟨h1, h2, h3, h4, h5⟩, h6⟩ := nodeOk_iff.1 h
  rw [← hearS_eq h5 h2]
  exact l12Hear_ct n v ⟨by omega, votesOk_mem h5⟩ h2 hv
abbrev so (w : Wrld) : List (Nat × Wt.Obj) := [(1, .arr (w.nodes.map sN))]
theorem sW_put (w : Wrld) (k : Nat) (x : Nod × Vote × Bool) : sW (if x.2.2 then sendF w x.2.1 else w) = sW (putF w k x) := by
  unfold putF
  cases x.2.2 with
  | false => rfl
  | true =>
    show sW (sendF w x.2.1) = sW (sendF _ x.2.1)
    unfold sendF
    simp only
    split <;> rfl
theorem put_nodes (w : Wrld) (k : Nat) (x : Nod × Vote × Bool) : (putF w k x).nodes = w.nodes.set k x.1 := by
  unfold putF
  split
  · unfold sendF; split <;> rfl
  · rfl
theorem set_sN (ns : List Nod) (k : Nat) (n : Nod) (y : NodS) : ((ns.map sN).set k y).set k (sN n) = (ns.set k n).map sN := by
  rw [List.set_set, List.map_set]
set_option maxHeartbeats 4000000 in
theorem l21Propose_ct (w : Wrld) (id : Int) (p : Pay) (hw : FineX w) : CtO Tryz.prog 57 [.v (sW w), .v id, .v p] (so w) (.v (sW (wproposeF w id p))) (so (wproposeF w id p)) := by
  have h4 := hw.four
  refine Ct.intro Tryz.func57 rfl rfl ?_
  all_goals refine aS (aR ?_)
  all_goals refine oC (op_boxm (o := 5) tW rfl rfl rfl rfl) ?_
  all_goals refine oC (op_box (o := 6) ty61 rfl (Conv.of rfl) rfl rfl) ?_
  all_goals refine oC (oX (o := 7) z38_WrldS rfl rfl) ?_
  all_goals refine oN ?_
  refine aS (aST (s' := mkSt 52 [(1, .v id), (3, .box 5 (IsLens.whole WrldS)), (5, .box 6 (IsLens.whole Pay)), (6, .box 7 (IsLens.whole WrldS)), (28, .v (!(within id 1 4 && !decide (id = w.bad) && payOk p && decide (w.log.length < 80))))] [(1, .arr (w.nodes.map sN)), (5, .cell (sW w)), (6, .cell p), (7, .cell WrldS.zero)]) ?_ ?_)
  · all_goals refine aR ?_
    all_goals refine oC (oM rfl (Conv.of rfl) rfl) ?_
    all_goals refine oC (oL fb54 (.cons rfl (Conv.of rfl) (.cons rfl (Conv.of rfl) (.cons rfl (Conv.of rfl) (.nil _)))) (l6In_ct _ _ _) (aK rfl rfl (aK rfl rfl (aK rfl rfl aK0))) rfl rfl) ?_
    all_goals refine oC (op_not rfl rfl) ?_
    all_goals refine oC (oM rfl (Conv.of rfl) rfl) ?_
    all_goals refine g_split (t := 13) rfl (fun h => ?_) (fun h => ?_)
    all_goals first | refine oC (gF rfl rfl rfl rfl rfl) ?_ | refine oC (gN rfl rfl rfl (oM rfl (Conv.of rfl) rfl)) ?_
    all_goals first | refine oC (gF rfl rfl rfl rfl rfl) ?_ | refine oC (gN rfl rfl rfl (oF f38_3_WrldS rfl rfl)) ?_
    all_goals first | refine oC (gF rfl rfl rfl rfl rfl) ?_ | refine oC (gN rfl rfl rfl (oD ty3 rfl rfl rfl)) ?_
    all_goals first | refine oC (gF rfl rfl rfl rfl rfl) ?_ | refine oC (gN rfl rfl rfl (op_eql rfl rfl rfl)) ?_
    all_goals refine oC (oQ rfl rfl rfl rfl) ?_
    all_goals refine oC (oM rfl (Conv.of rfl) rfl) ?_
    all_goals first | refine g_lit (t := 19) (b := true) rfl ?_ | refine g_split (t := 19) rfl (fun h => ?_) (fun h => ?_)
    all_goals first | refine oC (gF rfl rfl rfl rfl rfl) ?_ | refine oC (gN rfl rfl rfl (oD ty61 rfl rfl rfl)) ?_
    all_goals first | refine oC (gF rfl rfl rfl rfl rfl) ?_ | refine oC (gN rfl rfl rfl (oL fb65 (.cons rfl (Conv.of rfl) (.nil _)) (sPayOk_ct _) (aK rfl rfl aK0) rfl rfl)) ?_
    all_goals first | refine oC (gF rfl rfl rfl rfl rfl) ?_ | refine oC (gN rfl rfl rfl (op_not rfl rfl)) ?_
    all_goals refine oC (oQ rfl rfl rfl rfl) ?_
    all_goals refine oC (oM rfl (Conv.of rfl) rfl) ?_
    all_goals first | refine g_lit (t := 24) (b := true) rfl ?_ | refine g_split (t := 24) rfl (fun h => ?_) (fun h => ?_)
    all_goals first | refine oC (gF rfl rfl rfl rfl rfl) ?_ | refine oC (gN rfl rfl rfl (op_ldd tW rfl rfl rfl)) ?_
    all_goals first | refine oC (gF rfl rfl rfl rfl rfl) ?_ | refine oC (gN rfl rfl rfl (oLO fb90 (.cons rfl (Conv.of rfl) (.nil _)) (l21Room_ct w _) (olsk rfl ols0) (kK (by exact bN) k0) (kK (by exact bN) k0) rfl (argOb rfl rfl rfl argO0) (fun o ho => by cases ho) rfl)) ?_
    all_goals first | refine oC (gF rfl rfl rfl rfl rfl) ?_ | refine oC (gN rfl rfl rfl (op_not rfl rfl)) ?_
    all_goals refine oC (oQ rfl rfl rfl rfl) ?_
    all_goals refine oN ?_
    all_goals exact Le.mk rfl (tle rfl (rfl) rfl (tlb rfl rfl rfl (tlb rfl rfl rfl (tlb rfl rfl rfl (tle rfl (by (simp_all [sW]; try (rw [Bool.eq_iff_iff]; simp; try omega))) rfl tln))))) (olk rfl (by exact bN) (olk rfl (by exact obOkS rfl) (olk rfl (by exact bC) (olk rfl (by exact obOkS0) oln)))) (hU (a := so w) rfl)
  refine aC rfl (fun h => ?_) (fun h => ?_)
  · all_goals refine aS (aR ?_)
    all_goals refine oC (op_ldm tW rfl rfl rfl) ?_
    all_goals refine oC (op_stm tW rfl rfl rfl) ?_
    all_goals refine oN ?_
    refine aT ?_
    repeat first | refine rS ?_ | refine rB ?_
    refine ⟨_, _, res1C (ol := so w) tW rfl rfl (inOne rfl) (olk rfl bN oln) (hU rfl), ?_, ?_⟩
    · have h' := not_t h
      have e : wproposeF w id p = w := by
        unfold wproposeF honestB
        rw [if_neg]
        intro hh
        simp only [Bool.and_eq_true] at hh
        simp [hh.1.1.1, hh.1.1.2, hh.1.2, hh.2] at h'
      rw [e]
    · have h' := not_t h
      have e : wproposeF w id p = w := by
        unfold wproposeF honestB
        rw [if_neg]
        intro hh
        simp only [Bool.and_eq_true] at hh
        simp [hh.1.1.1, hh.1.1.2, hh.1.2, hh.2] at h'
      rw [e]
  · have h' := not_f h
    simp only [Bool.and_eq_true] at h'
    have hid : 1 ≤ id ∧ id ≤ 4 := by simpa [within] using h'.1.1.1
    have hlt : (id - 1).toNat < w.nodes.length := by omega
    have hx : w.nodes[(id - 1).toNat]? = some w.nodes[(id - 1).toNat] := List.getElem?_eq_getElem hlt
    have hno := hw.nodes _ (List.getElem_mem hlt)
    generalize hnn : w.nodes[(id - 1).toNat] = n at hx hno
    have hx' : (w.nodes.map sN)[(id - 1).toNat]? = some (sN n) := by rw [List.getElem?_map, hx]; rfl
    have hy : ∀ y : NodS, ((w.nodes.map sN).set (id - 1).toNat y)[(id - 1).toNat]? = some y := fun y => by
      rw [List.getElem?_set_self (by rw [List.length_map]; exact hlt)]
    have hln : ((w.nodes.map sN).length : Int) = 4 := by simp [h4]
    have hgd := hw.fine.seen n (List.mem_of_getElem? hx)
    have e : wproposeF w id p = putF w (id - 1).toNat (proposeF n p) := by
      unfold wproposeF honestB
      rw [if_pos (by simp only [h'.1.1.1, h'.1.1.2, h'.1.2, h'.2, Bool.and_self]), hx]
    rw [e]
    refine aW ?_
    all_goals refine aS (dS ?_)
    all_goals refine dC (oF f38_1_WrldS rfl rfl) ?_
    all_goals refine dC (oD ty35_NRef rfl rfl rfl) ?_
    all_goals refine dC (oM rfl (Conv.of rfl) rfl) ?_
    all_goals refine dC (op_sub rfl rfl rfl (by omega)) ?_
    all_goals refine dC (op_ixA sl35_NodS rfl rfl rfl rfl ⟨by omega, by omega⟩) ?_
    all_goals refine dC (op_ldme tN rfl rfl hx' rfl) ?_
    all_goals refine dC (oD ty61 rfl rfl rfl) ?_
    all_goals refine dC (OpOk.emit (d := 38) (o' := 9) 28 (oLM (s := 36) (ol := []) (ol' := []) (pre := []) fb91 (.nil _) rfl (.cons rfl (Conv.of rfl) (.nil _)) (l12Propose_w n p hno) ols0 k0 k0 rfl argO0 (argOk' rfl rfl argO0) (fun o ho => absurd (show o ∈ ([] : List Nat) from ho) (by simp)) (fun o ho => absurd (show o ∈ ([] : List Nat) from ho) (by simp)) rfl) rfl rfl rfl rfl rfl) ?_
    all_goals refine dC (oM rfl (Conv.of rfl) rfl) ?_
    all_goals refine dC (op_ext rfl rfl rfl) ?_
    all_goals refine dC (op_ext rfl rfl rfl) ?_
    all_goals refine dC (op_ext rfl rfl rfl) ?_
    all_goals refine dC (oX (o := 10) z66_NodR rfl rfl) ?_
    all_goals refine dC (oX (o := 11) z78 rfl rfl) ?_
    all_goals refine dC (op_st ty66_NodR rfl rfl (Conv.of rfl) rfl) ?_
    all_goals refine dC (op_st ty78 rfl rfl (Conv.of rfl) rfl) ?_
    all_goals refine dC (oA rfl (Conv.of rfl) rfl) ?_
    all_goals refine dr_nil mixed rfl ?_
    all_goals refine aS (aR ?_)
    all_goals refine oC (oF f38_1_WrldS rfl rfl) ?_
    all_goals refine oC (oD ty35_NRef rfl rfl rfl) ?_
    all_goals refine oC (oM rfl (Conv.of rfl) rfl) ?_
    all_goals refine oC (op_sub rfl rfl rfl (by omega)) ?_
    all_goals refine oC (oD ty66_NodR rfl rfl rfl) ?_
    all_goals refine oC (op_ixA sl35_NodS rfl rfl rfl rfl ⟨by omega, by simp; omega⟩) ?_
    all_goals refine oC (op_steR 28 rfl tN rfl rfl rfl rfl (hy _)) ?_
    all_goals refine oN ?_
    all_goals refine aS (aR ?_)
    all_goals refine oC (op_ldm tW rfl rfl rfl) ?_
    all_goals refine oC (oD ty78 rfl rfl rfl) ?_
    all_goals refine oC (oM rfl (Conv.of rfl) rfl) ?_
    all_goals refine oC (oLM (s := 48) (pre := []) fb92 (.nil _) rfl (.cons rfl (Conv.of rfl) (.cons rfl (Conv.of rfl) (.nil _))) (l21Send_ct w _ _ _ hw.fine.log (proposeF_len p hgd)) (olsk rfl ols0) (kK (by exact bN) k0) (kK (by exact bN) k0) rfl argO0 (argOk' rfl rfl (argOk' rfl rfl argO0)) (inOne rfl) (inOne rfl) rfl) ?_
    all_goals refine oC (op_stm tW rfl rfl rfl) ?_
    all_goals refine oN ?_
    refine aT ?_
    repeat first | refine rS ?_ | refine rB ?_
    refine ⟨_, _, res1C (ol := [(1, .arr _)]) tW rfl rfl (inOne rfl) (olk rfl bN oln) (hU rfl), ?_, ?_⟩
    · rw [← sW_put]; rfl
    · exact congrArg (fun z => obs [(1, Wt.Obj.arr z)]) (by rw [put_nodes]; exact set_sN _ _ _ _)
set_option maxHeartbeats 4000000 in
theorem l21Bring_ct (w : Wrld) (at_ id : Int) (hw : FineX w) : CtO Tryz.prog 61 [.v (sW w), .v at_, .v id] (so w) (.v (sW (wbringF w at_ id))) (so (wbringF w at_ id)) := by
  have h4 := hw.four
  have hlg := hw.fine.log.len
  have hidle : ∀ h' : (within at_ 0 ((w.log.length : Int) - 1) && within id 1 4 && !decide (id = w.bad) && decide (w.log.length < 80)) = false, wbringF w at_ id = w := fun h' => by
    unfold wbringF honestB
    rw [if_neg]
    intro hh
    simp only [Bool.and_eq_true] at hh
    simp [hh.1.1.1, hh.1.1.2, hh.1.2, hh.2] at h'
  refine Ct.intro Tryz.func61 rfl rfl ?_
  all_goals refine aS (aR ?_)
  all_goals refine oC (op_boxm (o := 5) tW rfl rfl rfl rfl) ?_
  all_goals refine oC (oX (o := 6) z38_WrldS rfl rfl) ?_
  all_goals refine oN ?_
  refine aS (aST (s' := mkSt 60 [(1, .v at_), (2, .v id), (3, .box 5 (IsLens.whole WrldS)), (6, .box 6 (IsLens.whole WrldS)), (32, .v (!(within at_ 0 ((w.log.length : Int) - 1) && within id 1 4 && !decide (id = w.bad) && decide (w.log.length < 80))))] [(1, .arr (w.nodes.map sN)), (5, .cell (sW w)), (6, .cell WrldS.zero)]) ?_ ?_)
  · all_goals refine aR ?_
    all_goals refine oC (oM rfl (Conv.of rfl) rfl) ?_
    all_goals refine oC (oF f38_2_WrldS rfl rfl) ?_
    all_goals refine oC (op_ldl ty36_OListVote rfl rfl rfl) ?_
    all_goals refine oC (oE sl36 rfl rfl) ?_
    all_goals refine oC (op_sub rfl rfl rfl (by (simp only [sW]; omega))) ?_
    all_goals refine oC (oL fb54 (.cons rfl (Conv.of rfl) (.cons rfl (Conv.of rfl) (.cons rfl (Conv.of rfl) (.nil _)))) (l6In_ct _ _ _) (aK rfl rfl (aK rfl rfl (aK rfl rfl aK0))) rfl rfl) ?_
    all_goals refine oC (op_not rfl rfl) ?_
    all_goals refine oC (oM rfl (Conv.of rfl) rfl) ?_
    all_goals refine g_split (t := 17) rfl (fun h => ?_) (fun h => ?_)
    all_goals first | refine oC (gF rfl rfl rfl rfl rfl) ?_ | refine oC (gN rfl rfl rfl (oM rfl (Conv.of rfl) rfl)) ?_
    all_goals first | refine oC (gF rfl rfl rfl rfl rfl) ?_ | refine oC (gN rfl rfl rfl (oL fb54 (.cons rfl (Conv.of rfl) (.cons rfl (Conv.of rfl) (.cons rfl (Conv.of rfl) (.nil _)))) (l6In_ct _ _ _) (aK rfl rfl (aK rfl rfl (aK rfl rfl aK0))) rfl rfl)) ?_
    all_goals first | refine oC (gF rfl rfl rfl rfl rfl) ?_ | refine oC (gN rfl rfl rfl (op_not rfl rfl)) ?_
    all_goals refine oC (oQ rfl rfl rfl rfl) ?_
    all_goals refine oC (oM rfl (Conv.of rfl) rfl) ?_
    all_goals first | refine g_lit (t := 22) (b := true) rfl ?_ | refine g_split (t := 22) rfl (fun h => ?_) (fun h => ?_)
    all_goals first | refine oC (gF rfl rfl rfl rfl rfl) ?_ | refine oC (gN rfl rfl rfl (oM rfl (Conv.of rfl) rfl)) ?_
    all_goals first | refine oC (gF rfl rfl rfl rfl rfl) ?_ | refine oC (gN rfl rfl rfl (oF f38_3_WrldS rfl rfl)) ?_
    all_goals first | refine oC (gF rfl rfl rfl rfl rfl) ?_ | refine oC (gN rfl rfl rfl (oD ty3 rfl rfl rfl)) ?_
    all_goals first | refine oC (gF rfl rfl rfl rfl rfl) ?_ | refine oC (gN rfl rfl rfl (op_eql rfl rfl rfl)) ?_
    all_goals refine oC (oQ rfl rfl rfl rfl) ?_
    all_goals refine oC (oM rfl (Conv.of rfl) rfl) ?_
    all_goals first | refine g_lit (t := 28) (b := true) rfl ?_ | refine g_split (t := 28) rfl (fun h => ?_) (fun h => ?_)
    all_goals first | refine oC (gF rfl rfl rfl rfl rfl) ?_ | refine oC (gN rfl rfl rfl (op_ldd tW rfl rfl rfl)) ?_
    all_goals first | refine oC (gF rfl rfl rfl rfl rfl) ?_ | refine oC (gN rfl rfl rfl (oLO fb90 (.cons rfl (Conv.of rfl) (.nil _)) (l21Room_ct w _) (olsk rfl ols0) (kK (by exact bN) k0) (kK (by exact bN) k0) rfl (argOb rfl rfl rfl argO0) (fun o ho => by cases ho) rfl)) ?_
    all_goals first | refine oC (gF rfl rfl rfl rfl rfl) ?_ | refine oC (gN rfl rfl rfl (op_not rfl rfl)) ?_
    all_goals refine oC (oQ rfl rfl rfl rfl) ?_
    all_goals refine oN ?_
    all_goals exact Le.mk rfl (tle rfl (rfl) rfl (tle rfl (rfl) rfl (tlb rfl rfl rfl (tlb rfl rfl rfl (tle rfl (by (simp_all [sW]; try (rw [Bool.eq_iff_iff]; simp; try omega))) rfl tln))))) (olk rfl (by exact bN) (olk rfl (by exact obOkS rfl) (olk rfl (by exact obOkS0) oln))) (hU (a := so w) rfl)
  refine aC rfl (fun h => ?_) (fun h => ?_)
  · all_goals refine aS (aR ?_)
    all_goals refine oC (op_ldm tW rfl rfl rfl) ?_
    all_goals refine oC (op_stm tW rfl rfl rfl) ?_
    all_goals refine oN ?_
    refine aT ?_
    repeat first | refine rS ?_ | refine rB ?_
    refine ⟨_, _, res1C (ol := so w) tW rfl rfl (inOne rfl) (olk rfl bN oln) (hU rfl), ?_, ?_⟩
    · rw [hidle (not_t h)]
    · rw [hidle (not_t h)]
  · have h' := not_f h
    simp only [Bool.and_eq_true] at h'
    have hid : 1 ≤ id ∧ id ≤ 4 := by simpa [within] using h'.1.1.2
    have hat : 0 ≤ at_ ∧ at_ ≤ (w.log.length : Int) - 1 := by simpa [within] using h'.1.1.1
    have hlt : (id - 1).toNat < w.nodes.length := by omega
    have hx : w.nodes[(id - 1).toNat]? = some w.nodes[(id - 1).toNat] := List.getElem?_eq_getElem hlt
    have hltv : at_.toNat < w.log.length := by omega
    have hv : w.log[at_.toNat]? = some w.log[at_.toNat] := List.getElem?_eq_getElem hltv
    have hno := hw.nodes _ (List.getElem_mem hlt)
    have hvl := hw.fine.log.v _ (List.getElem_mem hltv)
    generalize hnn : w.nodes[(id - 1).toNat] = n at hx hno
    generalize hvv : w.log[at_.toNat] = v at hv hvl
    have hv' : (sW w).log.l[at_.toNat]? = some v := hv
    have hx' : (w.nodes.map sN)[(id - 1).toNat]? = some (sN n) := by rw [List.getElem?_map, hx]; rfl
    have hy : ∀ y : NodS, ((w.nodes.map sN).set (id - 1).toNat y)[(id - 1).toNat]? = some y := fun y => by
      rw [List.getElem?_set_self (by rw [List.length_map]; exact hlt)]
    have hln : ((w.nodes.map sN).length : Int) = 4 := by simp [h4]
    have hgd := hw.fine.seen n (List.mem_of_getElem? hx)
    have e : wbringF w at_ id = putF w (id - 1).toNat (hearF n v) := by
      unfold wbringF honestB
      rw [if_pos (by simp only [h'.1.1.1, h'.1.1.2, h'.1.2, h'.2, Bool.and_self]), hx, hv]
    rw [e]
    refine aW ?_
    all_goals refine aS (dS ?_)
    all_goals refine dC (oF f38_1_WrldS rfl rfl) ?_
    all_goals refine dC (oD ty35_NRef rfl rfl rfl) ?_
    all_goals refine dC (oM rfl (Conv.of rfl) rfl) ?_
    all_goals refine dC (op_sub rfl rfl rfl (by omega)) ?_
    all_goals refine dC (op_ixA sl35_NodS rfl rfl rfl rfl ⟨by omega, by omega⟩) ?_
    all_goals refine dC (op_ldme tN rfl rfl hx' rfl) ?_
    all_goals refine dC (oF f38_2_WrldS rfl rfl) ?_
    all_goals refine dC (op_ldl ty36_OListVote rfl rfl rfl) ?_
    all_goals refine dC (oM rfl (Conv.of rfl) rfl) ?_
    all_goals refine dC (op_ix sl36 rfl rfl rfl (by omega) hv') ?_
    all_goals refine dC (oDR ty78 rfl rfl) ?_
    all_goals refine dC (OpOk.emit (d := 46) (o' := 9) 32 (oLM (s := 40) (ol := []) (ol' := []) (pre := []) fb94 (.nil _) rfl (.cons rfl (Conv.of rfl) (.nil _)) (l12Hear_w n v hno hvl) ols0 k0 k0 rfl argO0 (argOk' rfl rfl argO0) (fun o ho => absurd (show o ∈ ([] : List Nat) from ho) (by simp)) (fun o ho => absurd (show o ∈ ([] : List Nat) from ho) (by simp)) rfl) rfl rfl rfl rfl rfl) ?_
    all_goals refine dC (oM rfl (Conv.of rfl) rfl) ?_
    all_goals refine dC (op_ext rfl rfl rfl) ?_
    all_goals refine dC (op_ext rfl rfl rfl) ?_
    all_goals refine dC (op_ext rfl rfl rfl) ?_
    all_goals refine dC (oX (o := 10) z66_NodR rfl rfl) ?_
    all_goals refine dC (oX (o := 11) z78 rfl rfl) ?_
    all_goals refine dC (op_st ty66_NodR rfl rfl (Conv.of rfl) rfl) ?_
    all_goals refine dC (op_st ty78 rfl rfl (Conv.of rfl) rfl) ?_
    all_goals refine dC (oA rfl (Conv.of rfl) rfl) ?_
    all_goals refine dr_nil mixed rfl ?_
    all_goals refine aS (aR ?_)
    all_goals refine oC (oF f38_1_WrldS rfl rfl) ?_
    all_goals refine oC (oD ty35_NRef rfl rfl rfl) ?_
    all_goals refine oC (oM rfl (Conv.of rfl) rfl) ?_
    all_goals refine oC (op_sub rfl rfl rfl (by omega)) ?_
    all_goals refine oC (oD ty66_NodR rfl rfl rfl) ?_
    all_goals refine oC (op_ixA sl35_NodS rfl rfl rfl rfl ⟨by omega, by simp; omega⟩) ?_
    all_goals refine oC (op_steR 32 rfl tN rfl rfl rfl rfl (hy _)) ?_
    all_goals refine oN ?_
    all_goals refine aS (aR ?_)
    all_goals refine oC (op_ldm tW rfl rfl rfl) ?_
    all_goals refine oC (oD ty78 rfl rfl rfl) ?_
    all_goals refine oC (oM rfl (Conv.of rfl) rfl) ?_
    all_goals refine oC (oLM (s := 56) (pre := []) fb92 (.nil _) rfl (.cons rfl (Conv.of rfl) (.cons rfl (Conv.of rfl) (.nil _))) (l21Send_ct w _ _ _ hw.fine.log (hearF_len v hgd)) (olsk rfl ols0) (kK (by exact bN) k0) (kK (by exact bN) k0) rfl argO0 (argOk' rfl rfl (argOk' rfl rfl argO0)) (inOne rfl) (inOne rfl) rfl) ?_
    all_goals refine oC (op_stm tW rfl rfl rfl) ?_
    all_goals refine oN ?_
    refine aT ?_
    repeat first | refine rS ?_ | refine rB ?_
    refine ⟨_, _, res1C (ol := [(1, .arr _)]) tW rfl rfl (inOne rfl) (olk rfl bN oln) (hU rfl), ?_, ?_⟩
    · rw [← sW_put]; rfl
    · exact congrArg (fun z => obs [(1, Wt.Obj.arr z)]) (by rw [put_nodes]; exact set_sN _ _ _ _)
end Go.Proofs.YtgfoeiieopnlaaaGreatDoor

/- The reference: what happens in a world; a play. -/
set_option linter.unusedVariables false
set_option linter.unusedSimpArgs false
namespace Go.Proofs.YtgfoeiieopnlaaaGreatDoor
open Go Go.Wt
theorem send_nodes (w : Wrld) (v : Vote) : (sendF w v).nodes = w.nodes := by unfold sendF; split <;> rfl
set_option maxHeartbeats 1000000 in
theorem l21Tick_ct (w : Wrld) (hw : Fine w) : CtO Tryz.prog 56 [.v (sW w)] (so w) (.v (sW (tickF w))) (so (tickF w)) := by
  have hep := hw.ep
  have h4 := hw.four
  refine Ct.intro Tryz.func56 rfl rfl ?_
  refine aS (aR ?_)
  refine oC (op_boxm (o := 5) tW rfl rfl rfl rfl) ?_
  refine oC (oX (o := 6) z38_WrldS rfl rfl) ?_
  refine oN ?_
  refine aS (aR ?_)
  refine oC (oF f38_0_WrldS rfl rfl) ?_
  refine oC (oD ty3 rfl rfl rfl) ?_
  refine oC (oP rfl rfl rfl (by ((try simp only [sW]); omega))) ?_
  refine oC (op_min rfl rfl rfl) ?_
  refine oC (oF f38_0_WrldS rfl rfl) ?_
  refine oC (op_st ty3 rfl rfl (Conv.of rfl) rfl) ?_
  refine oN ?_
  refine aS (aS (aR ?_))
  refine oC (oA rfl (Conv.of rfl) rfl) ?_
  refine oN ?_
  refine aB ?_
  refine awp_loop' (fun n_ s => ∃ (k : Nat), ∃ (hn : n_ + k = 4), s = mkSt 29 [(1, .box 5 (IsLens.whole WrldS)), (2, .box 6 (IsLens.whole WrldS)), (3, .v (k : Int))] [(1, .arr (((w.nodes.take k).map (fun n => enterF n (min (w.epoch + 1) 30)) ++ w.nodes.drop k).map sN)), (5, .cell (sW (tickF w))), (6, .cell WrldS.zero)]) (4) ⟨0, by omega, rfl⟩ (Le.mk rfl (tlb rfl rfl rfl (tlb rfl rfl rfl (tle rfl (rfl) rfl tln))) (olk (by rfl) (by exact bN) (olk rfl (by exact obOkS rfl) (olk rfl (by exact obOkS0) oln))) (hU (a := so w) rfl)) ?_
  rintro n_ s ⟨k, hn, rfl⟩
  have hlen : (((w.nodes.take k).map (fun n => enterF n (min (w.epoch + 1) 30)) ++ w.nodes.drop k).map sN).length = 4 := by simp; omega
  refine aS (aS (aR ?_))
  refine oC (oM rfl (Conv.of rfl) rfl) ?_
  refine oC (oF f38_1_WrldS rfl rfl) ?_
  refine oC (oD ty35_NRef rfl rfl rfl) ?_
  refine oC (oEA sl35_NodS rfl rfl rfl) ?_
  refine oC (oLt rfl rfl rfl) ?_
  refine oN ?_
  refine aC rfl (fun h => ?_) (fun h => ?_)
  · have hlt : k < 4 := by rw [hlen] at h; simp at h; omega
    have hx : w.nodes[k]? = some w.nodes[k] := List.getElem?_eq_getElem (by omega)
    have hx' : (((w.nodes.take k).map (fun n => enterF n (min (w.epoch + 1) 30)) ++ w.nodes.drop k).map sN)[(k : Int).toNat]? = some (sN w.nodes[k]) := by
      rw [List.getElem?_map, List.getElem?_append_right (by simp; omega)]
      simp [Nat.min_eq_left (show k ≤ w.nodes.length by omega), hx]
    have hne := hw.nep _ (List.getElem_mem (show k < w.nodes.length by omega))
    have hy : ∀ y : NodS, ((((w.nodes.take k).map (fun n => enterF n (min (w.epoch + 1) 30)) ++ w.nodes.drop k).map sN).set (k : Int).toNat y)[(k : Int).toNat]? = some y := fun y => by
      rw [List.getElem?_set_self (by rw [hlen]; omega)]
    have hnext : ∀ y : NodS, ((((w.nodes.take k).map (fun n => enterF n (min (w.epoch + 1) 30)) ++ w.nodes.drop k).map sN).set (k : Int).toNat y).set (k : Int).toNat (sN (enterF w.nodes[k] (min (w.epoch + 1) 30))) = ((w.nodes.take (k + 1)).map (fun n => enterF n (min (w.epoch + 1) 30)) ++ w.nodes.drop (k + 1)).map sN := fun y => by
      rw [set_sN]
      exact congrArg _ (tick_step hx).symm
    refine aW ?_
    refine aS (aB ?_)
    refine dS ?_
    refine dC (oF f38_1_WrldS rfl rfl) ?_
    refine dC (oD ty35_NRef rfl rfl rfl) ?_
    refine dC (oM rfl (Conv.of rfl) rfl) ?_
    refine dC (oF f38_1_WrldS rfl rfl) ?_
    refine dC (oD ty35_NRef rfl rfl rfl) ?_
    refine dC (oM rfl (Conv.of rfl) rfl) ?_
    refine dC (op_ixA sl35_NodS rfl rfl rfl rfl ⟨by omega, by omega⟩) ?_
    refine dC (op_ldme tN rfl rfl hx' rfl) ?_
    refine dC (oF f38_0_WrldS rfl rfl) ?_
    refine dC (oD ty3 rfl rfl rfl) ?_
    refine dC (oLM (s := 23) (ol := []) (ol' := []) (pre := []) fb89 (.nil _) rfl (.cons rfl (Conv.of rfl) (.nil _)) (l12Enter_ct _ _ hne) ols0 k0 k0 rfl argO0 (argOk' rfl rfl argO0) (fun o ho => absurd (show o ∈ ([] : List Nat) from ho) (by simp)) (fun o ho => absurd (show o ∈ ([] : List Nat) from ho) (by simp)) rfl) ?_
    refine dC (op_ixA sl35_NodS rfl rfl rfl rfl ⟨by omega, by rw [List.length_set]; omega⟩) ?_
    refine dC (op_stme tN rfl rfl rfl (hy _)) ?_
    refine dr_nil mixed rfl ?_
    refine aR ?_
    refine oC (oM rfl (Conv.of rfl) rfl) ?_
    refine oC (oP rfl rfl rfl (by omega)) ?_
    refine oC (oA rfl (Conv.of rfl) rfl) ?_
    refine oN ?_
    repeat first | refine nS ?_ | refine nB ?_
    exact ⟨n_ - 1, _, by omega, ⟨k + 1, by omega, rfl⟩, Le.mk rfl (tlb rfl rfl rfl (tlb rfl rfl rfl (tle rfl (rfl) rfl tln))) (olk (by (exact congrArg Obj.arr (hnext _))) (by exact bN) (olk rfl (by exact obOkS rfl) (olk rfl (by exact obOkS0) oln))) (hU (a := so w) rfl)⟩
  · refine aE ?_
    repeat refine ex_seq ?_
    refine eB ?_
    have hk : k = 4 := by rw [hlen] at h; simp at h; omega
    subst hk
    refine aS (aR ?_)
    refine oC (op_ldm tW rfl rfl rfl) ?_
    refine oC (op_stm tW rfl rfl rfl) ?_
    refine oN ?_
    refine aT ?_
    repeat first | refine rS ?_ | refine rB ?_
    refine ⟨_, _, res1C (ol := [(1, .arr _)]) tW rfl rfl (inOne rfl) (olk rfl bN oln) (hU rfl), rfl, ?_⟩
    exact congrArg (fun z => obs [(1, Wt.Obj.arr z)]) (by rw [take_end (by omega), drop_end (by omega), List.append_nil]; rfl)
set_option maxHeartbeats 1000000 in
theorem l21Do_ct (w : Wrld) (e : Evt) (hw : FineX w) : CtO Tryz.prog 62 [.v (sW w), .v e] (so w) (.v (sW (doF w e))) (so (doF w e)) := by
  refine Ct.intro Tryz.func62 rfl rfl ?_
  all_goals refine aS (aR ?_)
  all_goals refine oC (op_boxm (o := 5) tW rfl rfl rfl rfl) ?_
  all_goals refine oC (op_box (o := 6) ty80 rfl (Conv.of rfl) rfl rfl) ?_
  all_goals refine oC (oX (o := 7) z38_WrldS rfl rfl) ?_
  all_goals refine oN ?_
  all_goals refine aS (aS (aR ?_))
  all_goals refine oC (oF f80_0 rfl rfl) ?_
  all_goals refine oC (oD ty3 rfl rfl rfl) ?_
  all_goals refine oN ?_
  refine aB ?_
  all_goals refine aS (aR ?_)
  all_goals refine oC (op_eql rfl rfl rfl) ?_
  all_goals refine oC (oA rfl (Conv.of rfl) rfl) ?_
  all_goals refine oN ?_
  refine aC rfl (fun h1 => ?_) (fun h1 => ?_)
  · have k1 : e.kind = 1 := by simpa using h1
    all_goals refine aS (aR ?_)
    all_goals refine oC (op_ldm tW rfl rfl rfl) ?_
    all_goals refine oC (oLM (s := 9) (pre := []) fb56 (.nil _) rfl (.nil _) (l21Tick_ct w hw.fine) (olsk rfl ols0) (kK (by exact bN) k0) (kK (by exact bN) k0) rfl argO0 argO0 (inOne rfl) (inOne rfl) rfl) ?_
    all_goals refine oC (op_stm tW rfl rfl rfl) ?_
    all_goals refine oN ?_
    refine aT ?_
    repeat first | refine rS ?_ | refine rB ?_
    refine ⟨_, _, res1C (ol := so (tickF w)) tW rfl rfl (inOne rfl) (olk rfl bN oln) (hU rfl), ?_, ?_⟩ <;> rw [doF, if_pos k1]
  · have k1 : ¬ e.kind = 1 := by simpa using h1
    all_goals refine aS (aR ?_)
    all_goals refine oC (op_eql rfl rfl rfl) ?_
    all_goals refine oC (oA rfl (Conv.of rfl) rfl) ?_
    all_goals refine oN ?_
    refine aC rfl (fun h2 => ?_) (fun h2 => ?_)
    · have k2 : e.kind = 2 := by simpa using h2
      all_goals refine aS (aR ?_)
      all_goals refine oC (op_ldm tW rfl rfl rfl) ?_
      all_goals refine oC (oF f80_1 rfl rfl) ?_
      all_goals refine oC (oD ty3 rfl rfl rfl) ?_
      all_goals refine oC (oF f80_3 rfl rfl) ?_
      all_goals refine oC (oD ty61 rfl rfl rfl) ?_
      all_goals refine oC (oLM (s := 13) (pre := []) fb57 (.nil _) rfl (.cons rfl (Conv.of rfl) (.cons rfl (Conv.of rfl) (.nil _))) (l21Propose_ct w _ _ hw) (olsk rfl ols0) (kK (by exact bN) k0) (kK (by exact bN) k0) rfl argO0 (argOk' rfl rfl (argOk' rfl rfl argO0)) (inOne rfl) (inOne rfl) rfl) ?_
      all_goals refine oC (op_stm tW rfl rfl rfl) ?_
      all_goals refine oN ?_
      refine aT ?_
      repeat first | refine rS ?_ | refine rB ?_
      refine ⟨_, _, res1C (ol := so (wproposeF w e.a e.pay)) tW rfl rfl (inOne rfl) (olk rfl bN oln) (hU rfl), ?_, ?_⟩ <;> rw [doF, if_neg k1, if_pos k2]
    · have k2 : ¬ e.kind = 2 := by simpa using h2
      all_goals refine aS (aR ?_)
      all_goals refine oC (op_eql rfl rfl rfl) ?_
      all_goals refine oC (oA rfl (Conv.of rfl) rfl) ?_
      all_goals refine oN ?_
      refine aC rfl (fun h3 => ?_) (fun h3 => ?_)
      · have k3 : e.kind = 3 := by simpa using h3
        all_goals refine aS (aR ?_)
        all_goals refine oC (op_ldm tW rfl rfl rfl) ?_
        all_goals refine oC (oF f80_1 rfl rfl) ?_
        all_goals refine oC (oD ty3 rfl rfl rfl) ?_
        all_goals refine oC (oF f80_2 rfl rfl) ?_
        all_goals refine oC (oD ty3 rfl rfl rfl) ?_
        all_goals refine oC (oLM (s := 21) (pre := []) fb61 (.nil _) rfl (.cons rfl (Conv.of rfl) (.cons rfl (Conv.of rfl) (.nil _))) (l21Bring_ct w _ _ hw) (olsk rfl ols0) (kK (by exact bN) k0) (kK (by exact bN) k0) rfl argO0 (argOk' rfl rfl (argOk' rfl rfl argO0)) (inOne rfl) (inOne rfl) rfl) ?_
        all_goals refine oC (op_stm tW rfl rfl rfl) ?_
        all_goals refine oN ?_
        refine aT ?_
        repeat first | refine rS ?_ | refine rB ?_
        refine ⟨_, _, res1C (ol := so (wbringF w e.a e.b)) tW rfl rfl (inOne rfl) (olk rfl bN oln) (hU rfl), ?_, ?_⟩ <;> rw [doF, if_neg k1, if_neg k2, if_pos k3]
      · have k3 : ¬ e.kind = 3 := by simpa using h3
        all_goals refine aS (aR ?_)
        all_goals refine oC (op_eql rfl rfl rfl) ?_
        all_goals refine oC (oA rfl (Conv.of rfl) rfl) ?_
        all_goals refine oN ?_
        refine aC rfl (fun h4 => ?_) (fun h4 => ?_)
        · have k4 : e.kind = 4 := by simpa using h4
          refine aST (s' := mkSt 45 [(2, .box 5 (IsLens.whole WrldS)), (3, .box 6 (IsLens.whole Evt)), (4, .box 7 (IsLens.whole WrldS)), (39, .v (voteOk e.vote && decide (e.vote.by_ = w.bad)))] [(1, .arr (w.nodes.map sN)), (5, .cell (sW w)), (6, .cell e), (7, .cell WrldS.zero)]) ?_ ?_
          · all_goals refine aR ?_
            all_goals refine oC (oF f80_4 rfl rfl) ?_
            all_goals refine oC (oD ty78 rfl rfl rfl) ?_
            all_goals refine oC (oL fb95 (.cons rfl (Conv.of rfl) (.nil _)) (l3Vote_ct _) (aK rfl rfl aK0) rfl rfl) ?_
            all_goals refine oC (oM rfl (Conv.of rfl) rfl) ?_
            all_goals refine g_split (t := 32) rfl (fun h => ?_) (fun h => ?_)
            all_goals first | refine oC (gF rfl rfl rfl rfl rfl) ?_ | refine oC (gN rfl rfl rfl (oF f80_4 rfl rfl)) ?_
            all_goals first | refine oC (gF rfl rfl rfl rfl rfl) ?_ | refine oC (gN rfl rfl rfl (oF f78_0 rfl rfl)) ?_
            all_goals first | refine oC (gF rfl rfl rfl rfl rfl) ?_ | refine oC (gN rfl rfl rfl (oD ty3 rfl rfl rfl)) ?_
            all_goals first | refine oC (gF rfl rfl rfl rfl rfl) ?_ | refine oC (gN rfl rfl rfl (oF f38_3_WrldS rfl rfl)) ?_
            all_goals first | refine oC (gF rfl rfl rfl rfl rfl) ?_ | refine oC (gN rfl rfl rfl (oD ty3 rfl rfl rfl)) ?_
            all_goals first | refine oC (gF rfl rfl rfl rfl rfl) ?_ | refine oC (gN rfl rfl rfl (op_eql rfl rfl rfl)) ?_
            all_goals refine oC (oQ rfl rfl rfl rfl) ?_
            all_goals refine oN ?_
            all_goals exact Le.mk rfl (tlb rfl rfl rfl (tlb rfl rfl rfl (tlb rfl rfl rfl (tle rfl (by (clear h1 h2 h3 h4; simp_all [sW]; try (rw [Bool.eq_iff_iff]; simp))) rfl tln)))) (olk rfl (by exact bN) (olk rfl (by exact obOkS rfl) (olk rfl (by exact bC) (olk rfl (by exact obOkS0) oln)))) (hU (a := so w) rfl)
          refine aC rfl (fun h5 => ?_) (fun h5 => ?_)
          · have hvo : voteOk e.vote = true := by simp only [Bool.and_eq_true] at h5; exact h5.1
            all_goals refine aS (aR ?_)
            all_goals refine oC (op_ldm tW rfl rfl rfl) ?_
            all_goals refine oC (oF f80_4 rfl rfl) ?_
            all_goals refine oC (oD ty78 rfl rfl rfl) ?_
            all_goals refine oC (oLM (s := 40) (pre := []) fb92 (.nil _) rfl (.cons rfl (Conv.of rfl) (.cons rfl (Conv.of rfl) (.nil _))) (l21Send_ct w _ true _ hw.fine.log (voteOk_len hvo)) (olsk rfl ols0) (kK (by exact bN) k0) (kK (by exact bN) k0) rfl argO0 (argOk' rfl rfl (argOk' rfl rfl argO0)) (inOne rfl) (inOne rfl) rfl) ?_
            all_goals refine oC (op_stm tW rfl rfl rfl) ?_
            all_goals refine oN ?_
            refine aT ?_
            repeat first | refine rS ?_ | refine rB ?_
            refine ⟨_, _, res1C (ol := so (sendF w e.vote)) tW rfl rfl (inOne rfl) (olk (congrArg (fun z : List Nod => Wt.Obj.arr (List.map sN z)) (send_nodes w e.vote).symm) bN oln) (hU rfl), ?_, ?_⟩ <;> rw [doF, if_neg k1, if_neg k2, if_neg k3, if_pos k4, h5, if_pos rfl]
          · refine aW ?_
            repeat first | refine nS ?_ | refine nB ?_
            all_goals refine aS (aR ?_)
            all_goals refine oC (op_ldm tW rfl rfl rfl) ?_
            all_goals refine oC (op_stm tW rfl rfl rfl) ?_
            all_goals refine oN ?_
            refine aT ?_
            repeat first | refine rS ?_ | refine rB ?_
            refine ⟨_, _, res1C (ol := so w) tW rfl rfl (inOne rfl) (olk rfl bN oln) (hU rfl), ?_, ?_⟩ <;> rw [doF, if_neg k1, if_neg k2, if_neg k3, if_pos k4, h5, if_neg (by decide)]
        · have k4 : ¬ e.kind = 4 := by simpa using h4
          refine aW ?_
          repeat first | refine nS ?_ | refine nB ?_
          all_goals refine aS (aR ?_)
          all_goals refine oC (op_ldm tW rfl rfl rfl) ?_
          all_goals refine oC (op_stm tW rfl rfl rfl) ?_
          all_goals refine oN ?_
          refine aT ?_
          repeat first | refine rS ?_ | refine rB ?_
          refine ⟨_, _, res1C (ol := so w) tW rfl rfl (inOne rfl) (olk rfl bN oln) (hU rfl), ?_, ?_⟩ <;> rw [doF, if_neg k1, if_neg k2, if_neg k3, if_neg k4]
theorem sWorldNew_w (bad : Int) (hb : within bad 0 4 = true) : Ct Tryz.prog 28 [.v bad] noObj (fun r1 h1 => r1 = .tup [.v (sW (newW bad)), .v true] ∧ h1 = obs (so (newW bad))) :=
  Ct.obs (sWorldNew_ct bad hb) fun G w ho o => by
    have h1 := ho 1
    have h1' : RelO G w 1 (.arr ([newC 1, newC 2, newC 3, newC 4] : List NodC)) := h1
    by_cases e : o = 1
    · subst e; exact arr_s h1'
    · have := ho o
      simpa [obs, lk0, e, orr] using this
end Go.Proofs.YtgfoeiieopnlaaaGreatDoor

/- What is drawn. -/
set_option linter.unusedVariables false
set_option linter.unusedSimpArgs false
namespace Go.Wt
open Go
def mixV (b : List UInt8) (k : Int) : Int :=
  ((b.getD (k.tmod b.length).toNat 0).toNat : Int) * 131 + ((b.getD ((k * 7 + 3).tmod b.length).toNat 0).toNat : Int) * 1117 + k * 29 + IntKind.i64.wrap (k.tdiv b.length) * 53
/-- A number below `n`. -/
def pickV (b : List UInt8) (k n : Int) : Int :=
  if (decide (n < 1) || decide ((b.length : Int) = 0)) = true then 0
  else if decide (k < (b.length : Int)) = true then ((b.getD k.toNat 0).toNat : Int).tmod n
  else (xor64 (mixV b k) (IntKind.i64.wrap ((mixV b k).tdiv 64))).tmod n
theorem tdiv_bd {m n : Int} (h : 0 ≤ m) (hn : 0 < n) : 0 ≤ m.tdiv n ∧ m.tdiv n ≤ m := by
  rw [Int.tdiv_eq_ediv_of_nonneg h]
  exact ⟨Int.ediv_nonneg h (by omega), Int.ediv_le_self _ h⟩
theorem getD_get {b : List UInt8} {i : Int} (h0 : 0 ≤ i) (h : i < b.length) : b[i.toNat]? = some (b.getD i.toNat 0) := by
  rw [List.getElem?_eq_getElem (show i.toNat < b.length by omega), List.getD_eq_getElem?_getD, List.getElem?_eq_getElem (show i.toNat < b.length by omega)]; rfl
theorem tmod_bd {m n : Int} (h : 0 ≤ m) (hn : 0 < n) : 0 ≤ m.tmod n ∧ m.tmod n < n := ⟨Int.tmod_nonneg n h, Int.tmod_lt_of_pos m hn⟩
theorem u8_bd (x : UInt8) : (0 : Int) ≤ (x.toNat : Int) ∧ (x.toNat : Int) ≤ 255 := ⟨by omega, by have := x.toNat_lt; omega⟩
theorem mixV_bd {b : List UInt8} {k : Int} (h : 0 ≤ k ∧ k ≤ 1000000) (hb : 0 < b.length) : 0 ≤ mixV b k ∧ mixV b k ≤ 100000000 := by
  have h1 := u8_bd (b.getD (k.tmod b.length).toNat 0)
  have h2 := u8_bd (b.getD ((k * 7 + 3).tmod b.length).toNat 0)
  have h3 := tdiv_bd h.1 (show (0 : Int) < b.length by omega)
  have h4 : IntKind.i64.wrap (k.tdiv b.length) = k.tdiv b.length := wrap_in (by omega)
  unfold mixV
  rw [h4]
  omega
theorem xor64_bd {m n : Int} (h1 : 0 ≤ m ∧ m ≤ 1000000000) (h2 : 0 ≤ n ∧ n ≤ 1000000000) : 0 ≤ xor64 m n := by
  unfold xor64
  obtain ⟨a, rfl⟩ := Int.eq_ofNat_of_zero_le h1.1
  obtain ⟨c, rfl⟩ := Int.eq_ofNat_of_zero_le h2.1
  have e : (BitVec.ofInt 64 (a : Int) ^^^ BitVec.ofInt 64 (c : Int)).toNat = a ^^^ c := by
    have ha : a < 2 ^ 64 := by omega
    have hc : c < 2 ^ 64 := by omega
    rw [BitVec.toNat_xor]
    simp only [BitVec.ofInt_natCast, BitVec.toNat_ofNat, Nat.mod_eq_of_lt ha, Nat.mod_eq_of_lt hc]
  have hx : a ^^^ c < 2 ^ 62 := Nat.xor_lt_two_pow (by omega) (by omega)
  rw [e, wrap_in (by omega)]
  omega
theorem pickV_bd {b : List UInt8} {k n : Int} (h : 0 ≤ k ∧ k ≤ 1000000) : 0 ≤ pickV b k n ∧ (1 ≤ n → pickV b k n < n) := by
  unfold pickV
  split
  · exact ⟨by omega, fun h => by omega⟩
  · rename_i hh
    simp only [Bool.or_eq_true, decide_eq_true_eq, not_or] at hh
    have hb : 0 < b.length := by omega
    split
    · have := tmod_bd (u8_bd (b.getD k.toNat 0)).1 (show 0 < n by omega)
      exact ⟨this.1, fun _ => this.2⟩
    · have hm := mixV_bd h hb
      have h3 := tdiv_bd hm.1 (show (0 : Int) < 64 by omega)
      have h4 : IntKind.i64.wrap ((mixV b k).tdiv 64) = (mixV b k).tdiv 64 := wrap_in (by omega)
      rw [h4]
      have := tmod_bd (xor64_bd (m := mixV b k) (n := (mixV b k).tdiv 64) (by omega) (by omega)) (show 0 < n by omega)
      exact ⟨this.1, fun _ => this.2⟩
def nx (r : Rd) (c : Int) : Rd := ⟨r.b, r.p + c⟩
theorem nx_nx (r : Rd) (c d : Int) : nx (nx r c) d = nx r (c + d) := by simp [nx, Int.add_assoc]
def pk (r : Rd) (n : Int) : Int := pickV r.b r.p n
/-- The reader has not gone too far. -/
def Far (m : Int) (r : Rd) : Prop := 0 ≤ r.p ∧ r.p ≤ m
theorem Far.nx {m c m' : Int} {r : Rd} (h : Far m r) (hc : 0 ≤ c) (hm : m + c ≤ m') : Far m' (nx r c) := by
  unfold Far Go.Wt.nx at *; simp only; omega
theorem Far.weak {m m' : Int} {r : Rd} (h : Far m r) (hm : m ≤ m') : Far m' r := by unfold Far at *; omega
theorem pk_bd {m : Int} {r : Rd} (h : Far m r) (hm : m ≤ 1000000) (n : Int) : 0 ≤ pk r n ∧ (1 ≤ n → pk r n < n) := pickV_bd (by unfold Far at h; omega)
def payV (r : Rd) : Pay := ⟨1 + pk r 3, (1 + pk r 3 + pk (nx r 1) 2).tmod 3 + 1, 1 + pk (nx r 2) 9⟩
def chStep (s : Int × List Itm × Rd) : Int × List Itm × Rd :=
  (s.1 + 1 + IntKind.i64.wrap ((pk s.2.2 6).tdiv 5) * pk (nx s.2.2 1) 3, s.2.1 ++ [⟨s.1 + 1 + IntKind.i64.wrap ((pk s.2.2 6).tdiv 5) * pk (nx s.2.2 1) 3, payV (nx s.2.2 2)⟩], nx s.2.2 5)
def chIter (r : Rd) : Nat → Int × List Itm × Rd
  | 0 => (0, [], nx r 1)
  | n + 1 => chStep (chIter r n)
def chainV (r : Rd) : List Itm := (chIter r (pk r 7).toNat).2.1
def chainR (r : Rd) : Rd := (chIter r (pk r 7).toNat).2.2
/-- What comes first ends in one of many states. -/
theorem awp_seq_ex {P : Program} {S : Nat → Prop} {st : St} {ι : Type} {x y : Code} {Q : Exit → St → Prop} (s' : ι → St) (Φ : ι → Prop) (h1 : awp P S x (athen (fun s => ∃ i, Φ i ∧ Le S s (s' i)) Q) st) (h2 : ∀ i, Φ i → awp P S y Q (s' i)) : awp P S (.seq x y) Q st :=
  aS (awp_mono h1 fun e s q => by
    cases e with
    | normal => obtain ⟨i, q1, q2⟩ := q; exact awp_le q2 (h2 i q1)
    | exit id => exact q
    | goto l => exact q
    | ret => exact q
    | panic ch => exact q
    | outgrown => exact q)
/-- A call whose result isn't known in full. -/
theorem awpOps_callE {P : Program} {S : Nat → Prop} {ops : Array Oper} {st : St} {d : Nat} {T pos aft} {x : Operand} {f : FuncId} {xs : List Operand} {av : List AV} {ts : Array TypeId} {rt : List Nat} {l : List Oper} {Q : St → Prop} {ι : Type} (ol : List (Nat × Obj)) (fr : ι → AV) (g : ι → List (Nat × Obj)) (Φ : ι → Prop) {R : AV → (Nat → Obj) → Prop}
    (hfun : st.ev x = some (.fn f [] [])) (hB : fnB P f = true) (ha : Args st 0 xs av rt) (hct : Ct P f av (obs ol) R) (hR : ∀ r h', R r h' → ∃ i, r = fr i ∧ h' = obs (g i) ∧ Φ i) (hol : OLs st ol) (hok : OKs (keys ol) ol)
    (hdis : ∀ z ∈ av, z.dis = z ∧ ∀ o ∈ z.refs, keys ol o = true) (hn : Nat.blt d st.n = true) (hke : ∀ i, keysEq ol (g i) = true) (hok' : ∀ i, OKs (keys ol) (g i)) (hrr : ∀ i, ∀ o ∈ (fr i).refs, keys ol o = true)
    (hk : ∀ i, Φ i → awpOps P S ops l Q (st.upd [(d, some (fr i))] (g i))) :
    awpOps P S ops (⟨some d, .call { callee := .value x, args := xs.toArray, argTypes := ts }, T, pos, aft, none⟩ :: l) Q st :=
  awpOps_callO (fa := []) (fc := []) ol hfun hB ha (by simpa [avs] using hct) hol hok (by simpa [avs] using hdis) hn fun r h' hr => by
    obtain ⟨i, rfl, rfl, hi⟩ := hR r h' hr
    have hkk := keysEq_keys (hke i)
    refine ⟨g i, rfl, fun o ho => (by rw [← hkk]; exact ho), fun o ho h1 => (by rw [← hkk] at ho; rw [ho] at h1; cases h1), ?_, fun o ho => (by rw [← hkk]; exact hrr i o ho), hk i hi⟩
    rw [← hkk]; exact hok' i
section bools
variable {P : Program} {S : Nat → Prop} {ops : Array Oper} {st : St} {d : Nat} {T pos aft} {x y : Operand} {t t' : TypeId} {m n : Bool}
end bools
end Go.Wt
