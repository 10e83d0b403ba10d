/- Part 3 of the proof: texts one behind the other. -/
import Derived.Test.YtmdhfalfppkpeaaGreatM2
import Derived.Test.YtmdhfalfppkpeaaGreatProg
import Derived.KernelRfl
/- Quiet epochs: all votes are brought to all. -/
set_option linter.unusedVariables false
set_option linter.unusedSimpArgs false
namespace Go.Wt
def b4 (w : Wrld) (a : Int) : Wrld := wbringF (wbringF (wbringF (wbringF w a 1) a 2) a 3) a 4
def sprF : Nat → Nat → Wrld → Wrld
  | 0, _, w => w
  | n + 1, a, w => if a < w.log.length then sprF n (a + 1) (b4 w a) else w
def spreadF (w : Wrld) : Wrld := sprF 100 0 w
def calmF (w : Wrld) (p : Pay) : Wrld := spreadF (wproposeF (spreadF (tickF w)) (leader (spreadF (tickF w)).epoch) p)
def worldCalmR (w : Wrld) (pays : List Pay) : Wrld := if worldOk w && decide (pays.length ≤ 30) then pays.foldl calmF w else .zero
theorem sprF_stop {n a : Nat} {w : Wrld} (h : ¬ a < w.log.length) : sprF n a w = w := by
  cases n with
  | zero => rfl
  | succ n => simp only [sprF]; rw [if_neg h]
theorem sprF_go {n a : Nat} {w : Wrld} (h : a < w.log.length) : sprF (n + 1) a w = sprF n (a + 1) (b4 w a) := by simp only [sprF]; rw [if_pos h]
theorem bring_fine {w : Wrld} (h : Fine w) (a id : Int) : Fine (wbringF w a id) := doF_fine ⟨3, a, id, .zero, .zero⟩ h
theorem propose_fine {w : Wrld} (h : Fine w) (id : Int) (p : Pay) : Fine (wproposeF w id p) := doF_fine ⟨2, id, 0, p, .zero⟩ h
theorem tick_fine {w : Wrld} (h : Fine w) : Fine (tickF w) := doF_fine ⟨1, 0, 0, .zero, .zero⟩ h
def brN (w : Wrld) (a : Int) : Nat → Wrld
  | 0 => w
  | k + 1 => wbringF (brN w a k) a ((k : Int) + 1)
theorem brN_fine {w : Wrld} (h : Fine w) (a : Int) : ∀ k, Fine (brN w a k)
  | 0 => h
  | k + 1 => bring_fine (brN_fine h a k) a _
theorem b4_fine {w : Wrld} (h : Fine w) (a : Int) : Fine (b4 w a) := brN_fine h a 4
theorem sprF_fine : ∀ (n a : Nat) {w : Wrld}, Fine w → Fine (sprF n a w)
  | 0, _, _, h => h
  | n + 1, a, w, h => by
    simp only [sprF]
    split
    · exact sprF_fine n (a + 1) (b4_fine h a)
    · exact h
theorem spread_fine {w : Wrld} (h : Fine w) : Fine (spreadF w) := sprF_fine 100 0 h
theorem calm_fine {w : Wrld} (h : Fine w) (p : Pay) : Fine (calmF w p) := spread_fine (propose_fine (spread_fine (tick_fine h)) _ p)
theorem calmFold_fine : ∀ (l : List Pay) {w : Wrld}, Fine w → Fine (l.foldl calmF w)
  | [], _, h => h
  | p :: l, _, h => calmFold_fine l (calm_fine h p)
/-! ### Lists without one twice -/
theorem nodup_len {α : Type} [DecidableEq α] : ∀ (l m : List α), l.Nodup → (∀ x ∈ l, x ∈ m) → l.length ≤ m.length
  | [], m, _, _ => Nat.zero_le _
  | x :: l, m, h, hs => by
    rw [List.nodup_cons] at h
    have hx := hs x (by simp)
    have := nodup_len l (m.erase x) h.2 fun y hy => (List.mem_erase_of_ne (show y ≠ x from fun e => h.1 (by rw [← e]; exact hy))).2 (hs y (by simp [hy]))
    rw [List.length_erase_of_mem hx] at this
    have := List.length_pos_of_mem hx
    simp only [List.length_cons]
    omega
theorem map_nodup {α β : Type} (f : α → β) : ∀ (l : List α), l.Nodup → (∀ x ∈ l, ∀ y ∈ l, f x = f y → x = y) → (l.map f).Nodup
  | [], _, _ => by simp
  | x :: l, h, hi => by
    rw [List.nodup_cons] at h
    rw [List.map_cons, List.nodup_cons]
    refine ⟨fun hm => ?_, map_nodup f l h.2 fun a ha b hb => hi a (by simp [ha]) b (by simp [hb])⟩
    obtain ⟨y, hy, e⟩ := List.mem_map.1 hm
    exact h.1 (hi y (by simp [hy]) x (by simp) e ▸ hy)
/-! ### What one event sends -/
theorem putF_log (w : Wrld) (k : Nat) (x : Nod × Vote × Bool) : (putF w k x).log = w.log ∨ (x.2.2 = true ∧ (putF w k x).log = w.log ++ [x.2.1]) := by
  unfold putF
  split
  · rename_i hx
    unfold sendF
    split
    · exact .inr ⟨hx, rfl⟩
    · exact .inl rfl
  · exact .inl rfl
theorem voteF_ch {n : Nod} {c : List Itm} (h : (voteF n c).2.2 = true) : (voteF n c).2.1.chain = c := by
  unfold voteF at h ⊢
  split at h
  · cases h
  · rename_i hh; rw [if_neg hh]
theorem tryF_last {n : Nod} : ∀ {l : List Vote}, (tryF n l).2.2 = true → lastEp (tryF n l).2.1.chain = n.epoch
  | [], h => by cases h
  | u :: r, h => by
    simp only [tryF] at h ⊢
    split at h
    · rename_i hf
      rw [if_pos hf, voteF_ch h]
      simp only [fits, Bool.and_eq_true, decide_eq_true_eq] at hf
      exact hf.1.1.2
    · rename_i hf; rw [if_neg hf]; exact tryF_last h
theorem hear_last {n : Nod} {v : Vote} (h : (hearF n v).2.2 = true) : lastEp (hearF n v).2.1.chain = n.epoch := by
  unfold hearF at h ⊢
  split at h
  · rename_i h1
    rw [if_pos h1]
    split at h
    · rename_i h2
      rw [if_pos h2, tryF_last h, (seeF_epoch n v).1]
    · cases h
  · cases h
theorem propose_last {n : Nod} {p : Pay} (h : (proposeF n p).2.2 = true) : lastEp (proposeF n p).2.1.chain = n.epoch := by
  rcases propose_cases n p with e | ⟨c, hc, e⟩
  · rw [e] at h; cases h
  · rw [e] at h ⊢; rw [voteF_ch h]; exact hc.last
/-- At most one vote is sent, by one that does not lie, of this epoch. -/
def Sent (w w' : Wrld) : Prop := w'.epoch = w.epoch ∧ w'.bad = w.bad ∧ (w'.log = w.log ∨ ∃ v, w'.log = w.log ++ [v] ∧ v.by_ ≠ w.bad ∧ lastEp v.chain = w.epoch)
theorem Sent.refl (w : Wrld) : Sent w w := ⟨rfl, rfl, .inl rfl⟩
theorem putF_eb (w : Wrld) (k : Nat) (x : Nod × Vote × Bool) : (putF w k x).epoch = w.epoch ∧ (putF w k x).bad = w.bad := by
  unfold putF sendF
  split
  · split <;> exact ⟨rfl, rfl⟩
  · exact ⟨rfl, rfl⟩
theorem Sent.bring {w : Wrld} (h : Inv w) (a id : Int) : Sent w (wbringF w a id) := by
  unfold wbringF
  split
  · rename_i hh
    simp only [honestB, Bool.and_eq_true, Bool.not_eq_true', decide_eq_false_iff_not, decide_eq_true_eq] at hh
    have hid : 1 ≤ id ∧ id ≤ 4 := by simpa [within] using hh.1.1.1
    split
    · rename_i n v hn hv
      have hi := node_id h hid hn
      have hN := h.nodes _ n hn
      refine ⟨(putF_eb _ _ _).1, (putF_eb _ _ _).2, ?_⟩
      rcases putF_log w (id - 1).toNat (hearF n v) with e | ⟨hx, e⟩
      · exact .inl e
      · exact .inr ⟨_, e, by rw [hear_by hx, hi]; exact hh.1.1.2, by rw [hear_last hx, hN.ep]⟩
    · exact Sent.refl w
  · exact Sent.refl w
theorem Sent.propose {w : Wrld} (h : Inv w) (id : Int) (p : Pay) : Sent w (wproposeF w id p) := by
  unfold wproposeF
  split
  · rename_i hh
    simp only [honestB, Bool.and_eq_true, Bool.not_eq_true', decide_eq_false_iff_not, decide_eq_true_eq] at hh
    have hid : 1 ≤ id ∧ id ≤ 4 := by simpa [within] using hh.1.1.1
    split
    · rename_i n hn
      have hi := node_id h hid hn
      have hN := h.nodes _ n hn
      refine ⟨(putF_eb _ _ _).1, (putF_eb _ _ _).2, ?_⟩
      rcases putF_log w (id - 1).toNat (proposeF n p) with e | ⟨hx, e⟩
      · exact .inl e
      · exact .inr ⟨_, e, by rw [propose_by hx, hi]; exact hh.1.1.2, by rw [propose_last hx, hN.ep]⟩
    · exact Sent.refl w
  · exact Sent.refl w
/-- An epoch that began with these votes sent. -/
structure Ep (L0 : List Vote) (e bad : Int) (w : Wrld) : Prop where
  inv : Inv w
  ep : w.epoch = e
  bd : w.bad = bad
  new : ∃ N, w.log = L0 ++ N ∧ ∀ v ∈ N, v.by_ ≠ bad ∧ lastEp v.chain = e
theorem Ep.sent {L0 : List Vote} {e bad : Int} {w w' : Wrld} (h : Ep L0 e bad w) (hI : Inv w') (hs : Sent w w') : Ep L0 e bad w' := by
  obtain ⟨N, hN, hv⟩ := h.new
  refine ⟨hI, by rw [hs.1, h.ep], by rw [hs.2.1, h.bd], ?_⟩
  rcases hs.2.2 with e' | ⟨v, e', h1, h2⟩
  · exact ⟨N, by rw [e', hN], hv⟩
  · refine ⟨N ++ [v], by rw [e', hN, List.append_assoc], fun u hu => ?_⟩
    rcases List.mem_append.1 hu with hu | hu
    · exact hv u hu
    · simp at hu; subst hu
      exact ⟨by rw [← h.bd]; exact h1, by rw [← h.ep]; exact h2⟩
theorem Ep.bring {L0 : List Vote} {e bad : Int} {w : Wrld} (h : Ep L0 e bad w) (a id : Int) : Ep L0 e bad (wbringF w a id) := h.sent (h.inv.bring a id) (Sent.bring h.inv a id)
theorem Ep.propose {L0 : List Vote} {e bad : Int} {w : Wrld} (h : Ep L0 e bad w) (id : Int) (p : Pay) : Ep L0 e bad (wproposeF w id p) := h.sent (h.inv.propose id p) (Sent.propose h.inv id p)
theorem Ep.b4 {L0 : List Vote} {e bad : Int} {w : Wrld} (h : Ep L0 e bad w) (a : Int) : Ep L0 e bad (b4 w a) := (((h.bring a 1).bring a 2).bring a 3).bring a 4
theorem log_nodup {w : Wrld} (h : Inv w) : w.log.Nodup := (votesOk_iff.1 h.ok.log).2
/-- Each sends one at most. -/
theorem Ep.four {L0 : List Vote} {e bad : Int} {w : Wrld} (h : Ep L0 e bad w) : w.log.length ≤ L0.length + 4 := by
  obtain ⟨N, hN, hv⟩ := h.new
  have hnd := log_nodup h.inv
  rw [hN, List.nodup_append] at hnd
  have hm : ∀ v ∈ N, v ∈ w.log := fun v hv' => by rw [hN]; exact List.mem_append_right _ hv'
  have hinj := map_nodup Vote.by_ N hnd.2.1 fun u hu v hv' e' => h.inv.safe.one u (hm u hu) v (hm v hv') e' (by rw [h.bd]; exact (hv u hu).1) (by rw [(hv u hu).2, (hv v hv').2])
  have hle := nodup_len (N.map Vote.by_) [1, 2, 3, 4] hinj fun x hx => by
    obtain ⟨v, hv', rfl⟩ := List.mem_map.1 hx
    have := votesOk_mem h.inv.ok.log v (hm v hv')
    simp only [voteOk, Bool.and_eq_true, within, decide_eq_true_eq] at this
    have h1 := this.1.1
    simp only [List.mem_cons, List.not_mem_nil, or_false]
    omega
  rw [hN, List.length_append]
  simp at hle
  omega
theorem Ep.tick {w : Wrld} (h : Inv w) (h30 : w.epoch + 1 ≤ 30) : Ep w.log (w.epoch + 1) w.bad (tickF w) :=
  ⟨h.tick, by show min (w.epoch + 1) 30 = _; omega, rfl, [], by simp [tickF], fun v hv => by cases hv⟩
theorem Grw.bring (w : Wrld) (a id : Int) : Grw w (wbringF w a id) := Grw.do w ⟨3, a, id, .zero, .zero⟩
theorem Grw.propose (w : Wrld) (id : Int) (p : Pay) : Grw w (wproposeF w id p) := Grw.do w ⟨2, id, 0, p, .zero⟩
theorem Grw.tick (w : Wrld) : Grw w (tickF w) := Grw.do w ⟨1, 0, 0, .zero, .zero⟩
theorem Grw.b4 (w : Wrld) (a : Int) : Grw w (b4 w a) := (((Grw.bring w a 1).trans (Grw.bring _ a 2)).trans (Grw.bring _ a 3)).trans (Grw.bring _ a 4)
/-- Who is brought a vote has seen it. -/
theorem hearF_has {n : Nod} {v : Vote} (hv : voteOk v = true) (hb : v.by_ ≠ n.id) (hl : n.seen.length < 80) : v ∈ (hearF n v).1.seen := by
  have hs : v ∈ (seeF n v).seen := by
    unfold seeF
    split
    · rename_i h; simpa using h
    · simp
  unfold hearF
  rw [if_pos (by simp [hv, hb, hl])]
  split
  · exact tryF_seen _ _ _ hs
  · exact hs
theorem seen_le {w : Wrld} (h : Inv w) {k : Nat} {n : Nod} (hn : w.nodes[k]? = some n) (hb : (k : Int) + 1 ≠ w.bad) : n.seen.length ≤ w.log.length := by
  have hN := h.nodes k n hn
  exact nodup_len _ _ (votesOk_iff.1 (nodeOk_seen (h.ok.nodes n (List.mem_of_getElem? hn))).1).2 (hN.sub (by rw [hN.id]; exact hb))
theorem node_at {w : Wrld} (h : Inv w) {k : Nat} (hk : k < 4) : ∃ n, w.nodes[k]? = some n := ⟨_, List.getElem?_eq_getElem (by have := h.ok.four; omega)⟩
theorem bring_has {w : Wrld} (h : Inv w) {a k : Nat} {v : Vote} (hk : k < 4) (hb : (k : Int) + 1 ≠ w.bad) (ha : w.log[a]? = some v) (hl : w.log.length < 80) : ∃ n, (wbringF w a ((k : Int) + 1)).nodes[k]? = some n ∧ v ∈ n.seen := by
  obtain ⟨n, hn⟩ := node_at h hk
  have hN := h.nodes k n hn
  have hk' : ((k : Int) + 1 - 1).toNat = k := by omega
  have hal := (List.getElem?_eq_some_iff.1 ha).1
  have hidb : n.id ≠ w.bad := by rw [hN.id]; exact hb
  unfold wbringF
  rw [if_pos (by simp only [honestB, within, Bool.and_eq_true, decide_eq_true_eq, Bool.not_eq_true', decide_eq_false_iff_not]; omega), hk', hn]
  simp only [Int.toNat_natCast, ha]
  refine ⟨(hearF n v).1, by rw [put_nodes', List.getElem?_set_self (by have := h.ok.four; omega)], ?_⟩
  by_cases hby : v.by_ = n.id
  · exact hearF_seen n v v (hN.own hidb v (List.mem_of_getElem? ha) hby)
  · exact hearF_has (votesOk_mem h.ok.log v (List.mem_of_getElem? ha)) hby (by have := seen_le h hn hb; omega)
/-- All that do not lie have seen what was sent first. -/
def Had (a : Nat) (w : Wrld) : Prop := ∀ (j : Nat) (v : Vote), j < a → w.log[j]? = some v → ∀ (k : Nat) (n : Nod), w.nodes[k]? = some n → (k : Int) + 1 ≠ w.bad → v ∈ n.seen
theorem Grw.node {w w' : Wrld} (h : Grw w w') (hI : Inv w) (hI' : Inv w') {k : Nat} {v : Vote} (hx : ∃ n, w.nodes[k]? = some n ∧ v ∈ n.seen) : ∃ n, w'.nodes[k]? = some n ∧ v ∈ n.seen := by
  obtain ⟨n, hn, hv⟩ := hx
  obtain ⟨m, hm, hs⟩ := h.seen k n hn
  exact ⟨m, hm, hs v hv⟩
def LogPre (w w' : Wrld) : Prop := ∃ N, w'.log = w.log ++ N
theorem LogPre.refl (w : Wrld) : LogPre w w := ⟨[], by simp⟩
theorem LogPre.trans {a b c : Wrld} (h : LogPre a b) (k : LogPre b c) : LogPre a c := by
  obtain ⟨N, h⟩ := h
  obtain ⟨M, k⟩ := k
  exact ⟨N ++ M, by rw [k, h, List.append_assoc]⟩
theorem Sent.pre {w w' : Wrld} (h : Sent w w') : LogPre w w' := by
  rcases h.2.2 with e | ⟨v, e, _⟩
  · exact ⟨[], by simp [e]⟩
  · exact ⟨[v], e⟩
theorem LogPre.at {w w' : Wrld} (h : LogPre w w') {j : Nat} {v : Vote} (hj : w.log[j]? = some v) : w'.log[j]? = some v := by
  obtain ⟨N, h⟩ := h
  rw [h, List.getElem?_append_left (List.getElem?_eq_some_iff.1 hj).1, hj]
theorem b4_has {L0 : List Vote} {e bad : Int} {w : Wrld} (h : Ep L0 e bad w) (hL : L0.length + 4 < 80) {a k : Nat} {v : Vote} (hk : k < 4) (hb : (k : Int) + 1 ≠ bad) (ha : w.log[a]? = some v) : ∃ n, (b4 w a).nodes[k]? = some n ∧ v ∈ n.seen := by
  have e1 := h.bring a 1
  have e2 := e1.bring a 2
  have e3 := e2.bring a 3
  have e4 := e3.bring a 4
  have a1 := (Sent.bring h.inv a 1).pre.at ha
  have a2 := (Sent.bring e1.inv a 2).pre.at a1
  have a3 := (Sent.bring e2.inv a 3).pre.at a2
  have l0 := h.four
  have l1 := e1.four
  have l2 := e2.four
  have l3 := e3.four
  have hcase : k = 0 ∨ k = 1 ∨ k = 2 ∨ k = 3 := by omega
  rcases hcase with rfl | rfl | rfl | rfl
  · exact ((Grw.bring _ a 2).trans ((Grw.bring _ a 3).trans (Grw.bring _ a 4))).node e1.inv e4.inv (bring_has h.inv (k := 0) (by omega) (by rw [h.bd]; exact hb) ha (by omega))
  · exact ((Grw.bring _ a 3).trans (Grw.bring _ a 4)).node e2.inv e4.inv (bring_has e1.inv (k := 1) (by omega) (by rw [e1.bd]; exact hb) a1 (by omega))
  · exact (Grw.bring _ a 4).node e3.inv e4.inv (bring_has e2.inv (k := 2) (by omega) (by rw [e2.bd]; exact hb) a2 (by omega))
  · exact bring_has e3.inv (k := 3) (by omega) (by rw [e3.bd]; exact hb) a3 (by omega)
theorem b4_pre {L0 : List Vote} {e bad : Int} {w : Wrld} (h : Ep L0 e bad w) (a : Int) : LogPre w (b4 w a) :=
  (((Sent.bring h.inv a 1).pre.trans (Sent.bring (h.bring a 1).inv a 2).pre).trans (Sent.bring ((h.bring a 1).bring a 2).inv a 3).pre).trans (Sent.bring (((h.bring a 1).bring a 2).bring a 3).inv a 4).pre
theorem Had.b4 {L0 : List Vote} {e bad : Int} {w : Wrld} (h : Ep L0 e bad w) (hL : L0.length + 4 < 80) {a : Nat} (ha : a < w.log.length) (hh : Had a w) : Had (a + 1) (b4 w a) := fun j v hj hv k n hn hb => by
  have h' := h.b4 a
  have hk : k < 4 := by have := h'.inv.ok.four; have := (List.getElem?_eq_some_iff.1 hn).1; omega
  have hjl : j < w.log.length := by omega
  have hv0 : w.log[j]? = some w.log[j] := List.getElem?_eq_getElem hjl
  have hv1 := (b4_pre h a).at hv0
  rw [hv] at hv1
  injection hv1 with hv1
  rw [← hv1] at hv0
  have hbad : (k : Int) + 1 ≠ bad := by rw [← h'.bd]; exact hb
  by_cases e : j = a
  · subst e
    obtain ⟨m, hm, hmv⟩ := b4_has h hL hk hbad hv0
    rw [hn] at hm; injection hm with hm; subst hm; exact hmv
  · obtain ⟨n0, hn0⟩ := node_at h.inv hk
    have := hh j v (by omega) hv0 k n0 hn0 (by rw [h.bd]; exact hbad)
    obtain ⟨m, hm, hmv⟩ := (Grw.b4 w a).node h.inv h'.inv ⟨n0, hn0, this⟩
    rw [hn] at hm; injection hm with hm; subst hm; exact hmv
end Go.Wt
namespace Go.Wt
/-! ### What comes late -/
def lateF (w : Wrld) (id : Int) : Nat → Wrld
  | 0 => w
  | k + 1 => doF (lateF w id k) ⟨3, (k : Int), id, .zero, .zero⟩
end Go.Wt
namespace Go.Wt
/-! ### Room for so many epochs -/
def roomB (w : Wrld) (k : Nat) : Bool := decide (w.epoch + (k : Int) ≤ 30) && decide ((w.log.length : Int) + 4 * (k : Int) < 80) && w.log.all fun v => decide ((v.chain.length : Int) + (k : Int) ≤ 16)
structure Small (w : Wrld) : Prop where
  e1 : -1000000 ≤ w.epoch ∧ w.epoch ≤ 1000000
  e2 : w.log.length ≤ 1000000
  e3 : ∀ v ∈ w.log, v.chain.length ≤ 1000000
end Go.Wt

/- In three quiet epochs of leaders that do not lie more becomes final. -/
set_option linter.unusedVariables false
set_option linter.unusedSimpArgs false
namespace Go.Wt
/-! ### What is voted for in an epoch whose leader does not lie -/
/-! ### Who has voted -/
/-- Who says it has voted in this epoch has sent a vote of this epoch. -/
def Vd (w : Wrld) : Prop := ∀ (k : Nat) (n : Nod), w.nodes[k]? = some n → (k : Int) + 1 ≠ w.bad → n.voted = w.epoch → ∃ v ∈ w.log, v.by_ = (k : Int) + 1 ∧ lastEp v.chain = w.epoch
theorem Vd.put {w : Wrld} {k : Nat} {n m : Nod} {c : List Itm} (h : Vd w) (hI : Inv w) (hn : w.nodes[k]? = some n) (hm : m.voted = n.voted) (hid : m.id = n.id) (hme : m.epoch = w.epoch) (hl : w.log.length < 80) (x : Nod × Vote × Bool) (hx : x = (m, .zero, false) ∨ (x = voteF m c ∧ lastEp c = w.epoch)) : Vd (putF w k x) := fun j a hj hb hv => by
  have hid' := (hI.nodes k n hn).id
  have hk := (List.getElem?_eq_some_iff.1 hn).1
  rw [(putF_eb _ _ _).1] at hv ⊢
  rw [(putF_eb _ _ _).2] at hb
  rw [put_nodes'] at hj
  have hgrow : ∀ v ∈ w.log, v ∈ (putF w k x).log := fun v hv => by
    rcases putF_log w k x with e | ⟨_, e⟩
    · rw [e]; exact hv
    · rw [e]; exact List.mem_append_left _ hv
  by_cases e : j = k
  · subst e
    rw [List.getElem?_set_self hk] at hj
    injection hj with hj
    rcases hx with hx | ⟨hx, hc⟩
    · rw [hx] at hj; subst hj
      obtain ⟨v, h1, h2⟩ := h j n hn hb (by rw [← hm]; exact hv)
      exact ⟨v, hgrow v h1, h2⟩
    · by_cases hs : m.seen.length < 80
      · rw [voteF_yes hs] at hx
        refine ⟨⟨m.id, c⟩, ?_, by rw [hid, hid'], hc⟩
        rw [hx]
        simp only [putF, if_true, sendF]
        split
        · exact List.mem_append_right _ (by simp)
        · rename_i hh
          simp only [hl, decide_true, Bool.and_true, Bool.not_eq_true', decide_eq_false_iff_not, Decidable.not_not] at hh
          exact hh
      · rw [voteF_no hs] at hx
        rw [hx] at hj; subst hj
        obtain ⟨v, h1, h2⟩ := h j n hn hb (by rw [← hm]; exact hv)
        exact ⟨v, hgrow v h1, h2⟩
  · rw [List.getElem?_set_ne (Ne.symm e)] at hj
    obtain ⟨v, h1, h2⟩ := h j a hj hb hv
    exact ⟨v, hgrow v h1, h2⟩
theorem seeF_voted (n : Nod) (v : Vote) : (seeF n v).voted = n.voted := by unfold seeF; split <;> rfl
theorem hear_cases {n : Nod} {v : Vote} (hn : nodeOk n = true) : ∃ m c, (m = n ∨ (m = seeF n v ∧ voteOk v = true ∧ v.by_ ≠ n.id ∧ n.seen.length < 80)) ∧ (hearF n v = (m, .zero, false) ∨ (hearF n v = voteF m c ∧ lastEp c = n.epoch ∧ m = seeF n v ∧ mayN n = true)) := by
  unfold hearF
  split
  · rename_i hc
    simp only [Bool.and_eq_true, Bool.not_eq_true', decide_eq_false_iff_not, decide_eq_true_eq] at hc
    have hmo := seeF_nok hn hc.1.1 hc.1.2 hc.2
    split
    · rename_i hmay
      have hmay' : mayN n = true := by
        simp only [mayN] at hmay ⊢
        rw [(seeF_epoch n v).1, seeF_voted] at hmay; exact hmay
      rcases try_cases (seeF n v) hmay (votesOk_mem (nodeOk_iff.1 hmo).1.2.2.2.2) _ (fun _ h => h) with e | ⟨c, hc', e⟩
      · exact ⟨seeF n v, [], .inr ⟨rfl, hc.1.1, hc.1.2, hc.2⟩, .inl e⟩
      · exact ⟨seeF n v, c, .inr ⟨rfl, hc.1.1, hc.1.2, hc.2⟩, .inr ⟨e, by rw [hc'.last, (seeF_epoch n v).1], rfl, hmay'⟩⟩
    · exact ⟨seeF n v, [], .inr ⟨rfl, hc.1.1, hc.1.2, hc.2⟩, .inl rfl⟩
  · exact ⟨n, [], .inl rfl, .inl rfl⟩
theorem Vd.bring {w : Wrld} (h : Vd w) (hI : Inv w) (a id : Int) : Vd (wbringF w a id) := by
  unfold wbringF
  split
  · rename_i hh
    simp only [honestB, Bool.and_eq_true, Bool.not_eq_true', decide_eq_false_iff_not, decide_eq_true_eq] at hh
    split
    · rename_i n v hn hv
      have hN := hI.nodes _ n hn
      obtain ⟨m, c, hm, hx⟩ := hear_cases (v := v) (hI.ok.nodes n (List.mem_of_getElem? hn))
      have hm' : m.voted = n.voted ∧ m.id = n.id ∧ m.epoch = w.epoch := by
        rcases hm with rfl | ⟨rfl, _⟩
        · exact ⟨rfl, rfl, hN.ep⟩
        · exact ⟨seeF_voted n v, (seeF_epoch n v).2.1, by rw [(seeF_epoch n v).1, hN.ep]⟩
      refine h.put (c := c) hI hn hm'.1 hm'.2.1 hm'.2.2 hh.1.2 _ ?_
      rcases hx with hx | ⟨hx, hc, _⟩
      · exact .inl hx
      · exact .inr ⟨hx, by rw [hc, hN.ep]⟩
    · exact h
  · exact h
theorem Vd.propose {w : Wrld} (h : Vd w) (hI : Inv w) (id : Int) (p : Pay) : Vd (wproposeF w id p) := by
  unfold wproposeF
  split
  · rename_i hh
    simp only [honestB, Bool.and_eq_true, Bool.not_eq_true', decide_eq_false_iff_not, decide_eq_true_eq] at hh
    split
    · rename_i n hn
      have hN := hI.nodes _ n hn
      rcases propose_cases n p with e | ⟨c, hc, e⟩
      · exact h.put (c := []) hI hn rfl rfl hN.ep hh.1.2 _ (.inl e)
      · exact h.put (c := c) hI hn rfl rfl hN.ep hh.1.2 _ (.inr ⟨e, by rw [hc.last, hN.ep]⟩)
    · exact h
  · exact h
theorem Vd.b4 {w : Wrld} (h : Vd w) (hI : Inv w) (a : Int) : Vd (b4 w a) := (((h.bring hI a 1).bring (hI.bring a 1) a 2).bring ((hI.bring a 1).bring a 2) a 3).bring (((hI.bring a 1).bring a 2).bring a 3) a 4
theorem Inv.b4 {w : Wrld} (hI : Inv w) (a : Int) : Inv (b4 w a) := (((hI.bring a 1).bring a 2).bring a 3).bring a 4
theorem Vd.spr : ∀ (n a : Nat) {w : Wrld}, Vd w → Inv w → Vd (sprF n a w)
  | 0, a, w, h, hI => h
  | n + 1, a, w, h, hI => by
    by_cases ha : a < w.log.length
    · rw [sprF_go ha]; exact Vd.spr n (a + 1) (h.b4 hI a) (hI.b4 a)
    · rw [sprF_stop ha]; exact h
theorem Vd.tick {w : Wrld} (h : Inv w) (h30 : w.epoch + 1 ≤ 30) : Vd (tickF w) := fun k n hn hb hv => by
  exfalso
  have he : (tickF w).epoch = w.epoch + 1 := by show min (w.epoch + 1) 30 = _; omega
  obtain ⟨m, hm⟩ := node_at h (k := k) (by have := h.tick.ok.four; have := (List.getElem?_eq_some_iff.1 hn).1; omega)
  have hn' : (tickF w).nodes[k]? = some (enterF m (min (w.epoch + 1) 30)) := by
    show (w.nodes.map _)[k]? = _
    rw [List.getElem?_map, hm]; rfl
  rw [hn] at hn'
  injection hn' with hn'
  have hN := h.nodes k m hm
  have ht := tick_epoch h.ok.ep hN.ep
  have hvo := (nodeOk_iff.1 (h.ok.nodes m (List.mem_of_getElem? hm))).1.2.2.1
  rw [hn', ht.2.2.2, he] at hv
  have := hN.ep
  omega
end Go.Wt

/- An epoch of a leader that does not lie makes one chain longest. -/
set_option linter.unusedVariables false
set_option linter.unusedSimpArgs false
namespace Go.Wt
theorem voters_nodup (l : List Vote) (c : List Itm) : (voters l c).Nodup := (List.filter_sublist).nodup (by decide)
theorem voters_other {l : List Vote} {c : List Itm} (x y : Int) (h : 3 ≤ (voters l c).length) : ∃ n, n ≠ x ∧ n ≠ y ∧ Vote.mk n c ∈ l := by
  by_cases hh : ∃ n ∈ voters l c, n ≠ x ∧ n ≠ y
  · obtain ⟨n, hn, h1, h2⟩ := hh
    exact ⟨n, h1, h2, (voters_mem.1 hn).2⟩
  · have := nodup_len (voters l c) [x, y] (voters_nodup l c) fun n hn => by
      simp only [List.mem_cons, List.not_mem_nil, or_false]
      by_cases h1 : n = x
      · exact .inl h1
      · by_cases h2 : n = y
        · exact .inr h2
        · exact absurd ⟨n, hn, h1, h2⟩ hh
    simp at this
    omega
/-- All that was sent in an epoch of a leader that does not lie is for one chain. -/
theorem allc {L0 : List Vote} {e bad : Int} {w : Wrld} {c : List Itm} (h : Ep L0 e bad w) (hl : leader e ≠ bad) (hc : Vote.mk (leader e) c ∈ w.log) (he : lastEp c = e) {v : Vote} (hv : v ∈ w.log) : v ∈ L0 ∨ v.chain = c := by
  by_cases h0 : v ∈ L0
  · exact .inl h0
  · obtain ⟨N, hN, hn⟩ := h.new
    have hvN : v ∈ N := by
      rw [hN] at hv
      rcases List.mem_append.1 hv with hv | hv
      · exact absurd hv h0
      · exact hv
    obtain ⟨hb, hvl⟩ := hn v hvN
    obtain ⟨i, hi⟩ := List.mem_iff_getElem?.1 hv
    have := h.inv.ord i v hi (by rw [h.bd]; exact hb)
    rw [hvl] at this
    have := h.inv.safe.one _ (List.mem_of_mem_take this) _ hc rfl (by rw [h.bd]; exact hl) (by rw [hvl, he])
    injection this with _ this
    exact .inr this
/-- With votes for one chain more, what is sure was sure, or has this one in it. -/
theorem sure_old {l L0 : List Vote} {c d : List Itm} (h : ∀ v ∈ l, v ∈ L0 ∨ v.chain = c) (hs : sure l d = true) (hn : ∀ j, 0 < j → j ≤ d.length → d.take j ≠ c) : sure L0 d = true := by
  rw [sure_iff] at hs ⊢
  intro j h1 h2
  refine Nat.le_trans (hs j h1 h2) (filter_len_mono (fun n hv => ?_) _)
  simp only [decide_eq_true_eq] at hv ⊢
  rcases h _ hv with h3 | h3
  · exact h3
  · exact absurd h3 (hn j h1 h2)
structure Top (w : Wrld) (c : List Itm) : Prop where
  sure : sure w.log c = true
  top : ∀ d, Wt.sure w.log d = true → d = c ∨ d.length < c.length
/-- Room for so many epochs. -/
structure RoomP (k : Nat) (w : Wrld) : Prop where
  ep : w.epoch + k ≤ 30
  log : w.log.length + 4 * k < 80
  len : ∀ v ∈ w.log, v.chain.length + k ≤ 16
/-! ### What the leader's proposal does -/
/-- This node has voted for it, or has seen nothing else than what there was. -/
def Un (L0 : List Vote) (c : List Itm) (w : Wrld) (k : Nat) : Prop := Vote.mk ((k : Int) + 1) c ∈ w.log ∨ ∃ n, w.nodes[k]? = some n ∧ ∀ v, v ∈ n.seen ↔ v ∈ L0
structure Pr (L0 : List Vote) (e bad : Int) (t : List Itm) (p : Pay) (w : Wrld) : Prop where
  ep : Ep L0 e bad w
  vd : Vd w
  lead : leader e ≠ bad
  e1 : 1 ≤ e
  room : L0.length + 4 < 80
  old : ∀ v ∈ L0, v.by_ ≠ bad → lastEp v.chain < e
  has : w.log[L0.length]? = some ⟨leader e, t ++ [⟨e, p⟩]⟩
  ts : sure L0 t = true
  tm : ∀ d, sure L0 d = true → d.length ≤ t.length
theorem Pr.mem {L0 : List Vote} {e bad : Int} {t : List Itm} {p : Pay} {w : Wrld} (h : Pr L0 e bad t p w) : Vote.mk (leader e) (t ++ [⟨e, p⟩]) ∈ w.log := List.mem_of_getElem? h.has
theorem Pr.all {L0 : List Vote} {e bad : Int} {t : List Itm} {p : Pay} {w : Wrld} (h : Pr L0 e bad t p w) {v : Vote} (hv : v ∈ w.log) : v ∈ L0 ∨ v.chain = t ++ [⟨e, p⟩] := allc h.ep h.lead h.mem (lastEp_snoc _ _) hv
theorem Pr.bring {L0 : List Vote} {e bad : Int} {t : List Itm} {p : Pay} {w : Wrld} (h : Pr L0 e bad t p w) (a id : Int) : Pr L0 e bad t p (wbringF w a id) :=
  ⟨h.ep.bring a id, h.vd.bring h.ep.inv a id, h.lead, h.e1, h.room, h.old, (Sent.bring h.ep.inv a id).pre.at h.has, h.ts, h.tm⟩
theorem tryF_some {n : Nod} : ∀ {l : List Vote} {u : Vote}, u ∈ l → fits n u = true → ∃ u' : Vote, lastEp u'.chain = n.epoch ∧ tryF n l = voteF n u'.chain
  | x :: r, u, hu, hf => by
    by_cases hx : fits n x = true
    · refine ⟨x, ?_, by simp only [tryF]; rw [if_pos hx]⟩
      simp only [fits, Bool.and_eq_true, decide_eq_true_eq] at hx
      exact hx.1.1.2
    · rcases List.mem_cons.1 hu with e | hu
      · subst e; exact absurd hf hx
      · obtain ⟨u', h1, h2⟩ := tryF_some hu hf
        exact ⟨u', h1, by simp only [tryF]; rw [if_neg hx]; exact h2⟩
theorem put_vote {w : Wrld} {k : Nat} {m : Nod} {c : List Itm} (hs : m.seen.length < 80) (hl : w.log.length < 80) : Vote.mk m.id c ∈ (putF w k (voteF m c)).log := by
  rw [voteF_yes hs]
  simp only [putF, if_true, sendF]
  split
  · exact List.mem_append_right _ (by simp)
  · rename_i hh
    simp only [hl, decide_true, Bool.and_true, Bool.not_eq_true', decide_eq_false_iff_not, Decidable.not_not] at hh
    exact hh
theorem Pr.bringU {L0 : List Vote} {e bad : Int} {t : List Itm} {p : Pay} {w : Wrld} (h : Pr L0 e bad t p w) {k a : Nat} {v : Vote} {id : Int} (hk : k < 4) (hb : (k : Int) + 1 ≠ bad) (hL : (k : Int) + 1 ≠ leader e) (hu : Un L0 (t ++ [⟨e, p⟩]) w k) (ha : w.log[a]? = some v) (hv : v ∈ L0 ∨ v = ⟨leader e, t ++ [⟨e, p⟩]⟩) :
    Un L0 (t ++ [⟨e, p⟩]) (wbringF w a id) k ∧ (id = (k : Int) + 1 → v = ⟨leader e, t ++ [⟨e, p⟩]⟩ → Vote.mk ((k : Int) + 1) (t ++ [⟨e, p⟩]) ∈ (wbringF w a id).log) := by
  have h' := h.bring a id
  have hpre := (Sent.bring h.ep.inv a id).pre
  have hlog := h.ep.four
  have hroom := h.room
  by_cases hin : Vote.mk ((k : Int) + 1) (t ++ [⟨e, p⟩]) ∈ w.log
  · have : Vote.mk ((k : Int) + 1) (t ++ [⟨e, p⟩]) ∈ (wbringF w a id).log := by
      obtain ⟨N, hN⟩ := hpre
      rw [hN]; exact List.mem_append_left _ hin
    exact ⟨.inl this, fun _ _ => this⟩
  · rcases hu with hu | ⟨n, hn, hseen⟩
    · exact absurd hu hin
    · -- a vote of this node of this epoch is for the chain
      have hown : ∀ {w' : Wrld} {c' : List Itm}, Pr L0 e bad t p w' → Vote.mk ((k : Int) + 1) c' ∈ w'.log → lastEp c' = e → Vote.mk ((k : Int) + 1) (t ++ [⟨e, p⟩]) ∈ w'.log := fun {w'} {c'} hp hm hl => by
        rcases hp.all hm with h1 | h1
        · have := hp.old _ h1 hb
          simp only at this
          omega
        · simp only at h1; rw [← h1]; exact hm
      have hN := h.ep.inv.nodes k n hn
      have hno := h.ep.inv.ok.nodes n (List.mem_of_getElem? hn)
      have hnl : n.seen.length < 80 := by have := seen_le h.ep.inv hn (by rw [h.ep.bd]; exact hb); omega
      have hvot : n.voted ≠ e := fun hv => by
        obtain ⟨u, h1, h2, h3⟩ := h.vd k n hn (by rw [h.ep.bd]; exact hb) (by rw [h.ep.ep]; exact hv)
        rw [h.ep.ep] at h3
        obtain ⟨ub, uc⟩ := u
        simp only at h2 h3
        subst h2
        exact hin (hown h h1 h3)
      by_cases hid : id = (k : Int) + 1
      · subst hid
        have hk' : ((k : Int) + 1 - 1).toNat = k := by omega
        have hal := (List.getElem?_eq_some_iff.1 ha).1
        have heq : wbringF w a ((k : Int) + 1) = putF w k (hearF n v) := by
          unfold wbringF
          rw [if_pos (by simp only [honestB, within, Bool.and_eq_true, decide_eq_true_eq, Bool.not_eq_true', decide_eq_false_iff_not, h.ep.bd]; omega), hk', hn]
          simp only [Int.toNat_natCast, ha]
        rw [heq] at h' ⊢
        have hkl := (List.getElem?_eq_some_iff.1 hn).1
        have hstay : hearF n v = (n, .zero, false) → Un L0 (t ++ [⟨e, p⟩]) (putF w k (hearF n v)) k := fun e' => by
          rw [e']
          exact .inr ⟨n, by rw [put_nodes', List.getElem?_set_self hkl], hseen⟩
        by_cases hvL : v = ⟨leader e, t ++ [⟨e, p⟩]⟩
        · -- it votes now
          have hby : v.by_ ≠ n.id := by rw [hvL, hN.id]; exact fun e' => hL e'.symm
          have hvo := votesOk_mem h.ep.inv.ok.log v (List.mem_of_getElem? ha)
          have hvn : v ∉ n.seen := fun hm => by
            have := h.old v ((hseen v).1 hm) (by rw [hvL]; exact h.lead)
            rw [hvL, lastEp_snoc] at this
            simp at this
          have hsee : seeF n v = { n with seen := n.seen ++ [v] } := by unfold seeF; rw [if_neg (by simpa using hvn)]
          have hmay : mayN (seeF n v) = true := by
            simp only [mayN, (seeF_epoch n v).1, seeF_voted, hN.ep, h.ep.ep, Bool.and_eq_true, decide_eq_true_eq, bne_iff_ne]
            exact ⟨by have := h.e1; omega, hvot⟩
          have hmem : ∀ u, u ∈ (seeF n v).seen ↔ u ∈ L0 ∨ u = v := fun u => by
            rw [hsee]
            simp only [List.mem_append, List.mem_singleton, hseen]
          have hsub : ∀ u ∈ L0, u ∈ (seeF n v).seen := fun u hu => (hmem u).2 (.inl hu)
          have htip : (tipOf (seeF n v).seen).length = t.length := by
            refine Nat.le_antisymm ?_ (tip_max (sure_mono hsub h.ts))
            refine h.tm _ (sure_old (c := t ++ [⟨e, p⟩]) (fun u hu => ?_) (tip_sure (seeF n v).seen) fun j hj hjl hjc => ?_)
            · rcases (hmem u).1 hu with hu | hu
              · exact .inl hu
              · rw [hu, hvL]; exact .inr rfl
            · have h3 := sure_iff.1 (tip_sure (seeF n v).seen) j hj hjl
              rw [hjc] at h3
              obtain ⟨m, hm1, hm2, hm3⟩ := voters_other (leader e) bad h3
              rcases (hmem _).1 hm3 with h4 | h4
              · have := h.old _ h4 hm2
                simp only [lastEp_snoc] at this
                omega
              · rw [hvL] at h4
                injection h4 with h4
                exact hm1 h4
          have hfit : fits (seeF n v) v = true := by
            simp only [fits, (seeF_epoch n v).1, hN.ep, h.ep.ep, htip, Bool.and_eq_true, decide_eq_true_eq]
            rw [hvL]
            refine ⟨⟨⟨rfl, lastEp_snoc _ _⟩, by simp⟩, ?_⟩
            have : (t ++ [Itm.mk e p]).take ((t ++ [Itm.mk e p]).length - 1) = t := by simp
            simp only [this]
            rw [← hvL]
            exact sure_mono hsub h.ts
          obtain ⟨u', h5, h6⟩ := tryF_some ((hmem v).2 (.inr rfl)) hfit
          have hhear : hearF n v = voteF (seeF n v) u'.chain := by
            unfold hearF
            rw [if_pos (by simp [hvo, hby, hnl]), if_pos hmay, h6]
          have hsl : (seeF n v).seen.length < 80 := by
            have := nodup_len (seeF n v).seen w.log (votesOk_iff.1 (nodeOk_iff.1 (seeF_nok hno hvo hby hnl)).1.2.2.2.2).2 fun u hu => by
              rcases (hmem u).1 hu with hu | hu
              · obtain ⟨N, hN', _⟩ := h.ep.new
                rw [hN']; exact List.mem_append_left _ hu
              · rw [hu]; exact List.mem_of_getElem? ha
            omega
          have hin' := put_vote (w := w) (k := k) (m := seeF n v) (c := u'.chain) hsl (by omega)
          rw [← hhear, (seeF_epoch n v).2.1, hN.id] at hin'
          have := hown h' hin' (by rw [h5, (seeF_epoch n v).1, hN.ep, h.ep.ep])
          exact ⟨.inl this, fun _ _ => this⟩
        · have hv0 : v ∈ L0 := hv.resolve_right hvL
          refine ⟨?_, fun _ e' => absurd e' hvL⟩
          obtain ⟨m, c', hm, hx⟩ := hear_cases (v := v) hno
          have hsee : seeF n v = n := by unfold seeF; rw [if_pos (by simpa using (hseen v).2 hv0)]
          have hm' : m = n := by
            rcases hm with h1 | ⟨h1, _⟩
            · exact h1
            · rw [h1, hsee]
          rw [hm'] at hx
          rcases hx with hx | ⟨hx, hc', _, _⟩
          · exact hstay hx
          · refine .inl (hown h' (c' := c') ?_ (by rw [hc', hN.ep, h.ep.ep]))
            have := put_vote (w := w) (k := k) (m := n) (c := c') hnl (by omega)
            rw [← hx, hN.id] at this
            exact this
      · -- another one is brought it
        refine ⟨.inr ⟨n, ?_, hseen⟩, fun e' => absurd e' hid⟩
        unfold wbringF
        split
        · rename_i hh
          simp only [honestB, Bool.and_eq_true, within, decide_eq_true_eq] at hh
          split
          · rw [put_nodes', List.getElem?_set_ne (by omega)]; exact hn
          · exact hn
        · exact hn
end Go.Wt

/- Eight quiet epochs: more becomes final, by all. -/
set_option linter.unusedVariables false
set_option linter.unusedSimpArgs false
namespace Go.Wt
theorem LogPre.mem {w w' : Wrld} (h : LogPre w w') {v : Vote} (hv : v ∈ w.log) : v ∈ w'.log := by
  obtain ⟨N, h⟩ := h
  rw [h]; exact List.mem_append_left _ hv
theorem spr_pre {L0 : List Vote} {e bad : Int} : ∀ (n a : Nat) {w : Wrld}, Ep L0 e bad w → LogPre w (sprF n a w)
  | 0, a, w, h => LogPre.refl w
  | n + 1, a, w, h => by
    by_cases ha : a < w.log.length
    · rw [sprF_go ha]; exact (b4_pre h a).trans (spr_pre n (a + 1) (h.b4 a))
    · rw [sprF_stop ha]; exact LogPre.refl w
section
variable {L0 : List Vote} {e bad : Int} {t : List Itm} {p : Pay}
/-- All that do not lie, but the leader. -/
def UnAll (L0 : List Vote) (c : List Itm) (e bad : Int) (w : Wrld) : Prop := ∀ k : Nat, k < 4 → (k : Int) + 1 ≠ bad → (k : Int) + 1 ≠ leader e → Un L0 c w k
theorem Pr.b4 {w : Wrld} (h : Pr L0 e bad t p w) (a : Int) : Pr L0 e bad t p (b4 w a) := (((h.bring a 1).bring a 2).bring a 3).bring a 4
theorem Pr.bringAll {w : Wrld} (h : Pr L0 e bad t p w) {a : Nat} {v : Vote} {id : Int} (hu : UnAll L0 (t ++ [⟨e, p⟩]) e bad w) (ha : w.log[a]? = some v) (hv : v ∈ L0 ∨ v = ⟨leader e, t ++ [⟨e, p⟩]⟩) : UnAll L0 (t ++ [⟨e, p⟩]) e bad (wbringF w a id) :=
  fun k hk hb hL => (h.bringU hk hb hL (hu k hk hb hL) ha hv).1
theorem Pr.b4U {w : Wrld} (h : Pr L0 e bad t p w) {a : Nat} {v : Vote} (hu : UnAll L0 (t ++ [⟨e, p⟩]) e bad w) (ha : w.log[a]? = some v) (hv : v ∈ L0 ∨ v = ⟨leader e, t ++ [⟨e, p⟩]⟩) :
    UnAll L0 (t ++ [⟨e, p⟩]) e bad (Wt.b4 w a) ∧ (v = ⟨leader e, t ++ [⟨e, p⟩]⟩ → ∀ k : Nat, k < 4 → (k : Int) + 1 ≠ bad → Vote.mk ((k : Int) + 1) (t ++ [⟨e, p⟩]) ∈ (Wt.b4 w a).log) := by
  have p1 := h.bring a 1
  have p2 := p1.bring a 2
  have p3 := p2.bring a 3
  have p4 := p3.bring a 4
  have a1 := (Sent.bring h.ep.inv a 1).pre.at ha
  have a2 := (Sent.bring p1.ep.inv a 2).pre.at a1
  have a3 := (Sent.bring p2.ep.inv a 3).pre.at a2
  have l2 := (Sent.bring p1.ep.inv a 2).pre
  have l3 := (Sent.bring p2.ep.inv a 3).pre
  have l4 := (Sent.bring p3.ep.inv a 4).pre
  have u1 := h.bringAll (id := 1) hu ha hv
  have u2 := p1.bringAll (id := 2) u1 a1 hv
  have u3 := p2.bringAll (id := 3) u2 a2 hv
  have u4 := p3.bringAll (id := 4) u3 a3 hv
  refine ⟨u4, fun hvL k hk hb => ?_⟩
  by_cases hL : (k : Int) + 1 = leader e
  · rw [hL]; exact p4.mem
  · have hcase : k = 0 ∨ k = 1 ∨ k = 2 ∨ k = 3 := by omega
    rcases hcase with rfl | rfl | rfl | rfl
    · exact (l2.trans (l3.trans l4)).mem ((h.bringU (k := 0) (id := 1) hk hb hL (hu 0 hk hb hL) ha hv).2 rfl hvL)
    · exact (l3.trans l4).mem ((p1.bringU (k := 1) (id := 2) hk hb hL (u1 1 hk hb hL) a1 hv).2 rfl hvL)
    · exact l4.mem ((p2.bringU (k := 2) (id := 3) hk hb hL (u2 2 hk hb hL) a2 hv).2 rfl hvL)
    · exact (p3.bringU (k := 3) (id := 4) hk hb hL (u3 3 hk hb hL) a3 hv).2 rfl hvL
theorem Pr.spr : ∀ (n a : Nat) {w : Wrld}, 80 ≤ n + a → a ≤ L0.length → Pr L0 e bad t p w → UnAll L0 (t ++ [⟨e, p⟩]) e bad w → ∀ k : Nat, k < 4 → (k : Int) + 1 ≠ bad → Vote.mk ((k : Int) + 1) (t ++ [⟨e, p⟩]) ∈ (sprF n a w).log
  | 0, a, w, hf, hal, h, hu => by have := h.room; omega
  | n + 1, a, w, hf, hal, h, hu => fun k hk hb => by
    have hlen := (List.getElem?_eq_some_iff.1 h.has).1
    have ha : a < w.log.length := by omega
    rw [sprF_go ha]
    by_cases e' : a = L0.length
    · have := (h.b4U (a := a) (v := ⟨leader e, t ++ [⟨e, p⟩]⟩) hu (by rw [e']; exact h.has) (.inr rfl)).2 rfl k hk hb
      exact (spr_pre n (a + 1) (h.b4 a).ep).mem this
    · obtain ⟨N, hN, _⟩ := h.ep.new
      have hx : w.log[a]? = some L0[a] := by rw [hN, List.getElem?_append_left (by omega)]; exact List.getElem?_eq_getElem (by omega)
      have := (h.b4U (a := a) hu hx (.inl (List.getElem_mem (by omega)))).1
      exact Pr.spr n (a + 1) (by omega) (by omega) (h.b4 a) this k hk hb
end
/-! ### Eight of them -/
/-- What n quiet epochs do. -/
structure After (k : Nat) (w x : Wrld) : Prop where
  inv : Inv x
  ep : x.epoch = w.epoch + k
  bd : x.bad = w.bad
  sub : ∀ v ∈ w.log, v ∈ x.log
end Go.Wt
namespace Go.Wt
end Go.Wt
namespace Go.Wt
abbrev calmP : Pay := ⟨1, 2, 1⟩
/-- The first that does not lie. -/
def firstI (b : Int) : Int := if b = 1 then 1 else 0
/-- Whether a payment of a later epoch is among the first. -/
def foundF (e : Int) (p : Pay) (f : List Itm) (k : Nat) : Bool := (f.take k).any fun i => decide (e < i.epoch) && decide (i.pay = p)
end Go.Wt

/- Certificates. -/
set_option linter.unusedVariables false
set_option linter.unusedSimpArgs false
namespace Go.Wt
/-- The chain of one of the lists. -/
def preC (c : List Itm) (k : Nat) : List Itm := c.take (c.length - 2 + k)
def votersOkFrom (p : Int) : List Int → Bool
  | [] => true
  | x :: r => within x 1 4 && decide (p < x) && votersOkFrom x r
def votersOk (l : List Int) : Bool := votersOkFrom 0 l && decide (3 ≤ l.length)
def certOk (c : Cert) : Bool := chainOk c.chain && decide (3 ≤ c.chain.length) && decide (finLen c.chain = (c.chain.length : Int) - 1) && decide (c.by_.length = 3) && c.by_.all votersOk
def certFinal (c : Cert) : List Itm := if certOk c then c.chain.take (c.chain.length - 1) else []
def votesAt (c : List Itm) : Nat → List (List Int) → List Vote
  | _, [] => []
  | k, l :: r => l.map (fun n => Vote.mk n (preC c k)) ++ votesAt c (k + 1) r
def certVotes (c : Cert) : List Vote := if certOk c then votesAt c.chain 0 c.by_ else []
def certC (l : List Vote) (c : List Itm) (n : Nat) : Cert := ⟨c.take (n + 1), [voters l (c.take (n - 1)), voters l (c.take n), voters l (c.take (n + 1))]⟩
def certOf (l : List Vote) : Cert × Bool := if votesOk l && decide (finLen (shownOf l) ≠ 0) then (certC l (shownOf l) (finLen (shownOf l)).toNat, true) else (.zero, false)
def worldShown (w : Wrld) (c : Cert) : Bool := worldOk w && certOk c && (certVotes c).all (shownB w)
/-- Votes of the bad one change nothing for those that do not lie. -/
theorem Safe.bad {bad : Int} {L L' : List Vote} (h : Safe bad L) (hl : ∀ v ∈ L', v ∈ L ∨ v.by_ = bad) : Safe bad L' :=
  ⟨fun u hu v hv e hb he => h.one u ((hl u hu).resolve_right hb) v ((hl v hv).resolve_right (by rw [← e]; exact hb)) e hb he,
   fun u hu v hv e hb he => h.long u ((hl u hu).resolve_right hb) v ((hl v hv).resolve_right (by rw [← e]; exact hb)) e hb he⟩
end Go.Wt

/- The form of certificates while they are built. -/
set_option linter.unusedVariables false
set_option linter.unusedSimpArgs false
namespace Go.Wt
open Go
/-- A certificate whose lists have room of their own. -/
structure CertS where
  chain : List Itm
  by_ : OList (List Int)
instance : Enc CertS := isoEnc (fun p => (p.chain, p.by_)) (fun q => ⟨q.1, q.2⟩) (fun _ => rfl) true (fun h => by cases h)
def CertS.zero : CertS := ⟨[], ⟨[], true⟩⟩
instance : ZCells CertS .zero := ⟨ZCells.cs (List Itm × OList (List Int)), fun G w ω => ZCells.rd (α := List Itm × OList (List Int)) G w ω⟩
theorem CertS.l0 : IsLens CertS.chain (fun x y => { x with chain := y }) 0 [0] := (IsLens.fst (List Itm) (OList (List Int))).iso (fun _ => rfl) (fun _ _ => rfl)
theorem CertS.l1 : IsLens CertS.by_ (fun x y => { x with by_ := y }) 1 [1] := (IsLens.snd (List Itm) (OList (List Int))).iso (fun _ => rfl) (fun _ _ => rfl)
theorem CertS.rd {G : Gh} {w : Go.World} {ω : Owner} {c : CertS} {cs : List Value} (h : Enc.rd G w ω c cs) : Enc.rd G w ω (Cert.mk c.chain c.by_.l) cs := by
  obtain ⟨c1, c2, rfl, r1, ⟨a, cap, h1, h2, h3, _⟩⟩ := h
  exact ⟨c1, _, rfl, r1, ⟨a, cap, h1, h2, h3⟩⟩
end Go.Wt

/- Parking of a list's room: a certificate while it is built. -/
set_option linter.unusedVariables false
set_option linter.unusedSimpArgs false
namespace Go.Wt
open Go
variable {P : Program} {S : Nat → Prop} {ops : Array Oper} {st : St}
structure CertH where
  chain : List Itm
  by_ : HList (List Int)
instance : Enc CertH := isoEnc (fun p => (p.chain, p.by_)) (fun q => ⟨q.1, q.2⟩) (fun _ => rfl) true (fun h => by cases h)
instance : Plain CertH := plain_iso _ _ _ (fun _ => rfl) _ _
theorem CertH.l0 : IsLens CertH.chain (fun x y => { x with chain := y }) 0 [0] := (IsLens.fst (List Itm) (HList (List Int))).iso (fun _ => rfl) (fun _ _ => rfl)
theorem CertH.l1 : IsLens CertH.by_ (fun x y => { x with by_ := y }) 1 [1] := (IsLens.snd (List Itm) (HList (List Int))).iso (fun _ => rfl) (fun _ _ => rfl)
theorem CertH.rd {G : Gh} {w : Go.World} {ω : Owner} {c : CertH} {cs : List Value} (h : Enc.rd G w ω c cs) : Enc.rd G w ω (Cert.mk c.chain c.by_.l) cs := by
  obtain ⟨c1, c2, rfl, r1, ⟨h0, a, cap, h1, h2, h3⟩⟩ := h
  exact ⟨c1, c2, rfl, r1, ⟨a, cap, by rw [h0, h1], h2, h3⟩⟩
theorem CertH.conv {c : CertH} : Conv (.v c) (.v (Cert.mk c.chain c.by_.l)) := fun {G w ω ω' u} h => by
  obtain ⟨cs, h1, h2⟩ := h
  exact ⟨cs, Plain.mono (Sh.refl _ _) (CertH.rd h1), h2⟩
/-- A variable is seen in another way. -/
theorem awp_recell {c : Code} {Q : Exit → St → Prop} {o tb : Nat} {α β : Type} [Enc α] [Enc β] {x : α} {y : β} (ho : st.ob o = .cell x) (htb : st.tm tb = some (.box o (IsLens.whole α)))
    (hc : ∀ (G : Gh) (w : Go.World) (ω : Owner) (cs : List Value), Enc.rd G w ω x cs → Enc.rd G w ω y cs)
    (k : awp P S c Q (st.upd [(tb, some (.box o (IsLens.whole β)))] [(o, .cell y)])) : awp P S c Q st := fun G w a hr => by
  have hob := hr.objs o
  rw [ho] at hob
  obtain ⟨b', cs, e, k1, k2, k3, k4⟩ := hob
  refine k G w a ⟨hr.defers, hr.size, fun q => ?_, fun j => ?_⟩
  · show RelT _ _ _ (orr (lk [(tb, _)] q) (st.tm q)) (a.tmps.getD q undef)
    simp only [lk]
    by_cases eb : q = tb
    · subst eb
      rw [if_pos rfl]
      have := hr.tmps q
      rw [htb] at this
      exact this
    · rw [if_neg eb]
      exact hr.tmps q
  · show RelO _ _ j (orr (lk [(o, _)] j) (st.ob j))
    simp only [lk]
    by_cases ek : j = o
    · subst ek
      rw [if_pos rfl]
      exact ⟨b', cs, e, k1, k2, hc _ _ _ _ k3, k4⟩
    · rw [if_neg ek]
      exact hr.objs j
end Go.Wt

/- Calls that make rows; structs built of a list with its room. -/
set_option linter.unusedVariables false
set_option linter.unusedSimpArgs false
namespace Go.Wt
open Go
variable {P : Program} {S : Nat → Prop} {ops : Array Oper} {st : St}
/-! ### A world that is built -/
structure WrldH where
  epoch : Int
  nodes : NRef
  log : HList Vote
  bad : Int
instance : Enc WrldH := isoEnc (fun p => (p.epoch, p.nodes, p.log, p.bad)) (fun q => ⟨q.1, q.2.1, q.2.2.1, q.2.2.2⟩) (fun _ => rfl) true (fun h => by cases h)
instance : Disl WrldH := ⟨fun _ => rfl⟩
def WrldH.zero : WrldH := ⟨0, .nil, ⟨[], .slice none 0 0⟩, 0⟩
instance {α : Type} [Enc α] [Plain α] : ZCells (HList α) ⟨[], .slice none 0 0⟩ := ⟨[.slice none 0 0], fun _ _ _ => ⟨rfl, none, 0, rfl, Nat.le_refl _, .inl rfl⟩⟩
instance : ZCells WrldH .zero := ⟨ZCells.cs (Int × NRef × HList Vote × Int), fun G w ω => ZCells.rd (α := Int × NRef × HList Vote × Int) G w ω⟩
theorem WrldH.l0 : IsLens WrldH.epoch (fun x y => { x with epoch := y }) 0 [0] := (IsLens.fst Int (NRef × HList Vote × Int)).iso (fun _ => rfl) (fun _ _ => rfl)
theorem WrldH.l1 : IsLens WrldH.nodes (fun x y => { x with nodes := y }) 1 [1, 0] := ((IsLens.snd Int (NRef × HList Vote × Int)).comp (IsLens.fst _ _)).iso (fun _ => rfl) (fun _ _ => rfl)
theorem WrldH.l2 : IsLens WrldH.log (fun x y => { x with log := y }) 2 [1, 1, 0] := ((IsLens.snd Int (NRef × HList Vote × Int)).comp ((IsLens.snd _ _).comp (IsLens.fst _ _))).iso (fun _ => rfl) (fun _ _ => rfl)
theorem WrldH.l3 : IsLens WrldH.bad (fun x y => { x with bad := y }) 3 [1, 1, 1] := ((IsLens.snd Int (NRef × HList Vote × Int)).comp ((IsLens.snd _ _).comp (IsLens.snd _ _))).iso (fun _ => rfl) (fun _ _ => rfl)
/-- Between: a list's room is parked in a temporary that holds a word. -/
theorem parkW {t r : Nat} {α : Type} [Enc α] [Plain α] {l : List α} (hne : Nat.beq t r = false) (ht : st.tm t = some (.v (OList.mk l true))) (h1 : ∀ G w a, RelSt G w a st → (a.tmps.getD r undef).oneCell' = true) :
    ∀ G w a, RelSt G w a st → ∃ hv G', RelSt G' w a (st.upd [(t, some (.v (HList.mk l hv))), (r, some (.v (Room.mk (α := α) hv true)))] []) ∧ Keep S G w G' w := by
  intro G w a hr
  have hne' : t ≠ r := fun e => by rw [e] at hne; simp at hne
  have hone := h1 G w a hr
  have h1 := hr.tmps t
  rw [ht] at h1
  obtain ⟨cs, ⟨aa, cap, g1, g2, g3, g4⟩, q2⟩ := h1
  refine ⟨.slice aa l.length cap, G.mv (.tmp t, []) (.tmp r, []), ⟨hr.defers, hr.size, fun q => ?_, fun k => ?_⟩, Keep.mv S (by simp) (by simp)⟩
  · show RelT _ _ _ (orr (lk [(t, _), (r, _)] q) (st.tm q)) (a.tmps.getD q undef)
    simp only [lk]
    by_cases eq : q = t
    · subst eq
      rw [if_pos rfl]
      exact ⟨cs, ⟨g1, aa, cap, rfl, g2, g3.mono Sh.mv⟩, q2⟩
    · rw [if_neg eq]
      by_cases eq2 : q = r
      · subst eq2
        rw [if_pos rfl]
        refine ⟨[a.tmps.getD q undef], ⟨⟨_, rfl, hone⟩, fun _ a k cap' e => ?_⟩, rfl⟩
        injection e with e1 e2 e3
        subst e1 e2 e3
        exact (g4 rfl).mono (Ow.mv_src (G := G) (w := w) (s := (.tmp t, [])) (d := (.tmp q, [])))
      · rw [if_neg eq2]
        exact (hr.tmps q).mono Sh.mv (Ow.mv_other (by simpa using eq) (by simpa using eq2)) (fun _ _ _ h => h)
  · obtain ⟨T', hT⟩ := Obj.refs_all (st.ob k)
    exact (hr.objs k).pres Sh.mv (fun _ _ _ h => h) hT (PresO.mv (by simp) (by simp) (by simp) (by simp))
/-- The room comes back into a world. -/
theorem unparkW {G : Gh} {w : Go.World} {a : Act} {d s r : Nat} {e bd : Int} {nr : NRef} {l : List Vote} {hv : Value} (hne : d ≠ r) (hr : RelSt G w a st) (hs : st.tm d = some (.v (WrldH.mk e nr ⟨l, hv⟩ bd))) (hq : st.tm r = some (.v (Room.mk (α := Vote) hv true))) :
    RelSt (G.mv (.tmp r, []) (.tmp d, [1, 1, 0])) w a (st.upd [(d, some (.v (WrldS.mk e nr ⟨l, true⟩ bd))), (s, none), (r, none)] []) := by
  have h1 := hr.tmps d
  rw [hs] at h1
  obtain ⟨cs, ⟨c1, c2, rfl, r1, ⟨c3, c4, rfl, r3, ⟨c5, c6, rfl, ⟨e0, aa, cap, g1, g2, g3⟩, r6⟩⟩⟩, q2⟩ := h1
  have h2 := hr.tmps r
  rw [hq] at h2
  obtain ⟨ds, d1, d2⟩ := h2
  refine ⟨hr.defers, hr.size, fun q => ?_, fun k => ?_⟩
  · show RelT _ _ _ (orr (lk [(d, _), (s, none), (r, none)] q) (st.tm q)) (a.tmps.getD q undef)
    simp only [lk]
    by_cases eq : q = d
    · subst eq
      rw [if_pos rfl]
      refine ⟨_, ⟨c1, _, rfl, r1, c3, _, rfl, Disl.mono Sh.mv (fun _ _ _ h => h) r3, c5, _, rfl, ⟨aa, cap, by rw [e0]; exact congrArg (fun x => [x]) g1, g2, g3.mono Sh.mv, fun _ => ?_⟩, r6⟩, q2⟩
      have := (d1.2 rfl aa _ cap g1).mono (Ow.mv_src (G := G) (w := w) (s := (.tmp r, [])) (d := (.tmp q, [1, 1, 0])))
      simpa [Owner.sub] using this
    · rw [if_neg eq]
      by_cases es : q = s
      · subst es; rw [if_pos rfl]; trivial
      rw [if_neg es]
      by_cases e2 : q = r
      · subst e2; rw [if_pos rfl]; trivial
      · rw [if_neg e2]
        exact (hr.tmps q).mono Sh.mv (Ow.mv_other (by simpa using e2) (by simpa using eq)) (fun _ _ _ h => h)
  · obtain ⟨T', hT⟩ := Obj.refs_all (st.ob k)
    exact (hr.objs k).pres Sh.mv (fun _ _ _ h => h) hT (PresO.mv (by simp) (by simp) (by simp) (by simp))
theorem op_buildW {d s r : Nat} {T pos aft} {t : TypeId} {parts : List (Nat × Operand)} {rt : List Nat} {l : List Vote} {e bd : Int} (hsr : Nat.beq s r = false) (hdr : Nat.beq d r = false)
    (hs : st.tm s = some (.v (OList.mk l true))) (h1 : ∀ st1 : St, st1.tm r = st.tm r → ∀ G w a, RelSt G w a st1 → (a.tmps.getD r undef).oneCell' = true)
    (hp : ∀ hv, Parts P t (st.upd [(s, some (.v (HList.mk l hv))), (r, some (.v (Room.mk (α := Vote) hv true)))] []) parts WrldH.zero (WrldH.mk e .nil ⟨l, hv⟩ bd) rt) (hz : ZeroOk P t WrldH.zero) (hpl : plB P t = true) (hn : Nat.blt d st.n = true) :
    OpOk P S ops ⟨some d, .build t parts.toArray, T, pos, aft, none⟩ ([s, r] ++ rt) [] [(d, some (.v (WrldS.mk e .nil ⟨l, true⟩ bd))), (s, none), (r, none)] [] st := by
  intro st1 hag G w a hr K Q hK
  have hdr' : d ≠ r := fun e => by rw [e] at hdr; simp at hdr
  obtain ⟨hv, G', p1, p2⟩ := parkW (S := S) (t := s) (r := r) hsr (by rw [hag.tm s (by simp)]; exact hs) (h1 st1 (hag.tm r (by simp))) G w a hr
  refine (op_build (S := S) (ops := ops) (pos := pos) (aft := aft) (T := T) (hp hv) hz rfl hpl hn) (st1.upd [(s, some (.v (HList.mk l hv))), (r, some (.v (Room.mk (α := Vote) hv true)))] []) ⟨hag.n, fun t ht => ?_, fun o ho => by cases ho⟩ G' w a p1 K Q fun a' w' G'' k1 k2 => ?_
  · show orr (lk [(s, _), (r, _)] t) (st1.tm t) = orr (lk [(s, _), (r, _)] t) (st.tm t)
    rw [hag.tm t (by simp [ht])]
  · have := unparkW (s := s) (d := d) (r := r) (e := e) (bd := bd) (nr := .nil) (l := l) (hv := hv) hdr' k1 (by show orr (lk [(d, _)] d) _ = _; simp [lk, orr]) (by show orr (lk [(d, _)] r) (orr (lk [(s, _), (r, _)] r) _) = _; simp [lk, orr, Ne.symm hdr', Ne.symm (fun e => by rw [e] at hsr; simp at hsr : s ≠ r)])
    refine hK _ _ (G''.mv (.tmp r, []) (.tmp d, [1, 1, 0])) ?_ ((p2.trans k2).trans (Keep.mv S (by simp) (by simp)))
    have e9 : ((st1.upd [(s, some (AV.v (HList.mk l hv))), (r, some (.v (Room.mk (α := Vote) hv true)))] []).upd [(d, some (.v (WrldH.mk e .nil ⟨l, hv⟩ bd)))] []).upd [(d, some (.v (WrldS.mk e .nil ⟨l, true⟩ bd))), (s, none), (r, none)] [] = st1.upd [(d, some (.v (WrldS.mk e .nil ⟨l, true⟩ bd))), (s, none), (r, none)] [] := by
      unfold St.upd
      congr 1
      funext q
      simp only [lk]
      by_cases a1 : q = d
      · subst a1; simp [orr]
      · by_cases a2 : q = s
        · subst a2; simp [a1, orr]
        · by_cases a3 : q = r
          · subst a3; simp [a1, a2, orr]
          · simp [a1, a2, a3, orr]
    rw [e9] at this
    exact this
theorem nod_fN {G : Gh} {w : Go.World} {ω : Owner} {n : Nod} {cs : List Value} (h : Enc.rd G w ω n cs) : Enc.rd G w ω (fN n) cs := by
  obtain ⟨c1, c2, rfl, r1, ⟨c3, c4, rfl, r3, ⟨c5, c6, rfl, r5, ⟨a, cap, h1, h2, h3⟩⟩⟩⟩ := h
  exact ⟨c1, _, rfl, r1, c3, _, rfl, r3, c5, _, rfl, r5, ⟨a, cap, h1, h2, h3, fun h => by cases h⟩⟩
/-- What a box's temporary holds is a word. -/
theorem one_box {r o : Nat} {α γ : Type} [Enc α] [Enc γ] {get : α → γ} {set : α → γ → α} {off : Nat} {pth : List Nat} {L : IsLens get set off pth} (h : st.tm r = some (.box o L)) :
    ∀ st1 : St, st1.tm r = st.tm r → ∀ G w a, RelSt G w a st1 → (a.tmps.getD r undef).oneCell' = true := fun st1 e G w a hr => by
  have := hr.tmps r
  rw [e, h] at this
  obtain ⟨b, _, h2⟩ := this
  rw [h2]; rfl
end Go.Wt

/- Facts of the types and functions of this seat, each by computation. -/
set_option linter.unusedVariables false
namespace Go.Proofs.YtmdhfalfppkpeaaGreat
open Go Go.Wt
theorem ty126 : TyOk Tryz.prog 126 (Rd) := ⟨by kernel_rfl⟩
theorem ty22 : TyOk Tryz.prog 22 (List UInt8) := ⟨by kernel_rfl⟩
theorem ty26 : TyOk Tryz.prog 26 (List Nod) := ⟨by kernel_rfl⟩
theorem ty26_ListNod : TyOk Tryz.prog 26 (List Nod) := ⟨by kernel_rfl⟩
theorem ty26_NRef : TyOk Tryz.prog 26 (NRef) := ⟨by kernel_rfl⟩
theorem ty27 : TyOk Tryz.prog 27 (List Vote) := ⟨by kernel_rfl⟩
theorem ty27_HListVote : TyOk Tryz.prog 27 (HList Vote) := ⟨by kernel_rfl⟩
theorem ty27_OListVote : TyOk Tryz.prog 27 (OList Vote) := ⟨by kernel_rfl⟩
theorem ty29 : TyOk Tryz.prog 29 (Wrld) := ⟨by kernel_rfl⟩
theorem ty29_Wrld : TyOk Tryz.prog 29 (Wrld) := ⟨by kernel_rfl⟩
theorem ty29_WrldA : TyOk Tryz.prog 29 (WrldA) := ⟨by kernel_rfl⟩
theorem ty29_WrldH : TyOk Tryz.prog 29 (WrldH) := ⟨by kernel_rfl⟩
theorem ty29_WrldS : TyOk Tryz.prog 29 (WrldS) := ⟨by kernel_rfl⟩
theorem ty3 : TyOk Tryz.prog 3 (Int) := ⟨by kernel_rfl⟩
theorem ty34 : TyOk Tryz.prog 34 (List Itm) := ⟨by kernel_rfl⟩
theorem ty34_CListItm : TyOk Tryz.prog 34 (CList Itm) := ⟨by kernel_rfl⟩
theorem ty41 : TyOk Tryz.prog 41 (Nod) := ⟨by kernel_rfl⟩
theorem ty41_NodC : TyOk Tryz.prog 41 (NodC) := ⟨by kernel_rfl⟩
theorem ty41_NodH : TyOk Tryz.prog 41 (NodH) := ⟨by kernel_rfl⟩
theorem ty41_NodR : TyOk Tryz.prog 41 (NodR) := ⟨by kernel_rfl⟩
theorem ty41_NodS : TyOk Tryz.prog 41 (NodS) := ⟨by kernel_rfl⟩
theorem ty48 : TyOk Tryz.prog 48 (Vote) := ⟨by kernel_rfl⟩
theorem ty48_Vote : TyOk Tryz.prog 48 (Vote) := ⟨by kernel_rfl⟩
theorem ty5 : TyOk Tryz.prog 5 (UInt8) := ⟨by kernel_rfl⟩
theorem ty58 : TyOk Tryz.prog 58 (Pay) := ⟨by kernel_rfl⟩
theorem ty60 : TyOk Tryz.prog 60 (Itm) := ⟨by kernel_rfl⟩
theorem ty78 : TyOk Tryz.prog 78 (Evt) := ⟨by kernel_rfl⟩
theorem z126 : ZeroOk Tryz.prog 126 Rd.zero := zero_mk (by kernel_rfl)
theorem z29 : ZeroOk Tryz.prog 29 Wrld.zero := zero_mk (by kernel_rfl)
theorem z29_WrldA : ZeroOk Tryz.prog 29 WrldA.zero := zero_mk (by kernel_rfl)
theorem z29_WrldH : ZeroOk Tryz.prog 29 WrldH.zero := zero_mk (by kernel_rfl)
theorem z29_WrldS : ZeroOk Tryz.prog 29 WrldS.zero := zero_mk (by kernel_rfl)
theorem z3 : ZeroOk Tryz.prog 3 (0 : Int) := zero_mk (by kernel_rfl)
theorem z34 : ZeroOk Tryz.prog 34 ([] : List Itm) := zero_mk (by kernel_rfl)
theorem z34_CListItm : ZeroOk Tryz.prog 34 (CList.mk [] : CList Itm) := zero_mk (by kernel_rfl)
theorem z41 : ZeroOk Tryz.prog 41 Nod.zero := zero_mk (by kernel_rfl)
theorem z41_NodC : ZeroOk Tryz.prog 41 NodC.zero := zero_mk (by kernel_rfl)
theorem z41_NodR : ZeroOk Tryz.prog 41 NodR.zero := zero_mk (by kernel_rfl)
theorem z41_NodS : ZeroOk Tryz.prog 41 NodS.zero := zero_mk (by kernel_rfl)
theorem z48 : ZeroOk Tryz.prog 48 Vote.zero := zero_mk (by kernel_rfl)
theorem z58 : ZeroOk Tryz.prog 58 Pay.zero := zero_mk (by kernel_rfl)
theorem z60 : ZeroOk Tryz.prog 60 Itm.zero := zero_mk (by kernel_rfl)
theorem z78 : ZeroOk Tryz.prog 78 Evt.zero := zero_mk (by kernel_rfl)
theorem f126_0 : FldOk Tryz.prog 126 0 Rd.b (fun x y => { x with b := y }) 0 [0] := ⟨Rd.l0, by kernel_rfl⟩
theorem f126_1 : FldOk Tryz.prog 126 1 Rd.p (fun x y => { x with p := y }) 1 [1] := ⟨Rd.l1, by kernel_rfl⟩
theorem f29_0 : FldOk Tryz.prog 29 0 Wrld.epoch (fun x y => { x with epoch := y }) 0 [0] := ⟨Wrld.l0, by kernel_rfl⟩
theorem f29_0_Wrld : FldOk Tryz.prog 29 0 Wrld.epoch (fun x y => { x with epoch := y }) 0 [0] := ⟨Wrld.l0, by kernel_rfl⟩
theorem f29_0_WrldA : FldOk Tryz.prog 29 0 WrldA.epoch (fun x y => { x with epoch := y }) 0 [0] := ⟨WrldA.l0, by kernel_rfl⟩
theorem f29_0_WrldH : FldOk Tryz.prog 29 0 WrldH.epoch (fun x y => { x with epoch := y }) 0 [0] := ⟨WrldH.l0, by kernel_rfl⟩
theorem f29_0_WrldS : FldOk Tryz.prog 29 0 WrldS.epoch (fun x y => { x with epoch := y }) 0 [0] := ⟨WrldS.l0, by kernel_rfl⟩
theorem f29_1 : FldOk Tryz.prog 29 1 Wrld.nodes (fun x y => { x with nodes := y }) 1 [1, 0] := ⟨Wrld.l1, by kernel_rfl⟩
theorem f29_1_Wrld : FldOk Tryz.prog 29 1 Wrld.nodes (fun x y => { x with nodes := y }) 1 [1, 0] := ⟨Wrld.l1, by kernel_rfl⟩
theorem f29_1_WrldA : FldOk Tryz.prog 29 1 WrldA.nodes (fun x y => { x with nodes := y }) 1 [1, 0] := ⟨WrldA.l1, by kernel_rfl⟩
theorem f29_1_WrldS : FldOk Tryz.prog 29 1 WrldS.nodes (fun x y => { x with nodes := y }) 1 [1, 0] := ⟨WrldS.l1, by kernel_rfl⟩
theorem f29_2 : FldOk Tryz.prog 29 2 Wrld.log (fun x y => { x with log := y }) 2 [1, 1, 0] := ⟨Wrld.l2, by kernel_rfl⟩
theorem f29_2_WrldA : FldOk Tryz.prog 29 2 WrldA.log (fun x y => { x with log := y }) 2 [1, 1, 0] := ⟨WrldA.l2, by kernel_rfl⟩
theorem f29_2_WrldH : FldOk Tryz.prog 29 2 WrldH.log (fun x y => { x with log := y }) 2 [1, 1, 0] := ⟨WrldH.l2, by kernel_rfl⟩
theorem f29_2_WrldS : FldOk Tryz.prog 29 2 WrldS.log (fun x y => { x with log := y }) 2 [1, 1, 0] := ⟨WrldS.l2, by kernel_rfl⟩
theorem f29_3 : FldOk Tryz.prog 29 3 Wrld.bad (fun x y => { x with bad := y }) 3 [1, 1, 1] := ⟨Wrld.l3, by kernel_rfl⟩
theorem f29_3_Wrld : FldOk Tryz.prog 29 3 Wrld.bad (fun x y => { x with bad := y }) 3 [1, 1, 1] := ⟨Wrld.l3, by kernel_rfl⟩
theorem f29_3_WrldA : FldOk Tryz.prog 29 3 WrldA.bad (fun x y => { x with bad := y }) 3 [1, 1, 1] := ⟨WrldA.l3, by kernel_rfl⟩
theorem f29_3_WrldH : FldOk Tryz.prog 29 3 WrldH.bad (fun x y => { x with bad := y }) 3 [1, 1, 1] := ⟨WrldH.l3, by kernel_rfl⟩
theorem f29_3_WrldS : FldOk Tryz.prog 29 3 WrldS.bad (fun x y => { x with bad := y }) 3 [1, 1, 1] := ⟨WrldS.l3, by kernel_rfl⟩
theorem f41_0 : FldOk Tryz.prog 41 0 Nod.id (fun x y => { x with id := y }) 0 [0] := ⟨Nod.l0, by kernel_rfl⟩
theorem f41_0_NodC : FldOk Tryz.prog 41 0 NodC.id (fun x y => { x with id := y }) 0 [0] := ⟨NodC.l0, by kernel_rfl⟩
theorem f41_0_NodS : FldOk Tryz.prog 41 0 NodS.id (fun x y => { x with id := y }) 0 [0] := ⟨NodS.l0, by kernel_rfl⟩
theorem f41_1 : FldOk Tryz.prog 41 1 Nod.epoch (fun x y => { x with epoch := y }) 1 [1, 0] := ⟨Nod.l1, by kernel_rfl⟩
theorem f41_1_NodS : FldOk Tryz.prog 41 1 NodS.epoch (fun x y => { x with epoch := y }) 1 [1, 0] := ⟨NodS.l1, by kernel_rfl⟩
theorem f41_2 : FldOk Tryz.prog 41 2 Nod.voted (fun x y => { x with voted := y }) 2 [1, 1, 0] := ⟨Nod.l2, by kernel_rfl⟩
theorem f41_2_NodS : FldOk Tryz.prog 41 2 NodS.voted (fun x y => { x with voted := y }) 2 [1, 1, 0] := ⟨NodS.l2, by kernel_rfl⟩
theorem f41_3 : FldOk Tryz.prog 41 3 Nod.seen (fun x y => { x with seen := y }) 3 [1, 1, 1] := ⟨Nod.l3, by kernel_rfl⟩
theorem f41_3_NodC : FldOk Tryz.prog 41 3 NodC.seen (fun x y => { x with seen := y }) 3 [1, 1, 1] := ⟨NodC.l3, by kernel_rfl⟩
theorem f41_3_NodH : FldOk Tryz.prog 41 3 NodH.seen (fun x y => { x with seen := y }) 3 [1, 1, 1] := ⟨NodH.l3, by kernel_rfl⟩
theorem f41_3_NodS : FldOk Tryz.prog 41 3 NodS.seen (fun x y => { x with seen := y }) 3 [1, 1, 1] := ⟨NodS.l3, by kernel_rfl⟩
theorem f48_0 : FldOk Tryz.prog 48 0 Vote.by_ (fun x y => { x with by_ := y }) 0 [0] := ⟨Vote.l0, by kernel_rfl⟩
theorem f48_1 : FldOk Tryz.prog 48 1 Vote.chain (fun x y => { x with chain := y }) 1 [1] := ⟨Vote.l1, by kernel_rfl⟩
theorem f58_0 : FldOk Tryz.prog 58 0 Pay.frm (fun x y => { x with frm := y }) 0 [0] := ⟨Pay.l0, by kernel_rfl⟩
theorem f58_1 : FldOk Tryz.prog 58 1 Pay.to (fun x y => { x with to := y }) 1 [1, 0] := ⟨Pay.l1, by kernel_rfl⟩
theorem f58_2 : FldOk Tryz.prog 58 2 Pay.sum (fun x y => { x with sum := y }) 2 [1, 1] := ⟨Pay.l2, by kernel_rfl⟩
theorem f60_0 : FldOk Tryz.prog 60 0 Itm.epoch (fun x y => { x with epoch := y }) 0 [0] := ⟨Itm.l0, by kernel_rfl⟩
theorem f60_1 : FldOk Tryz.prog 60 1 Itm.pay (fun x y => { x with pay := y }) 1 [1] := ⟨Itm.l1, by kernel_rfl⟩
theorem f78_0 : FldOk Tryz.prog 78 0 Evt.kind (fun x y => { x with kind := y }) 0 [0] := ⟨Evt.l0, by kernel_rfl⟩
theorem f78_1 : FldOk Tryz.prog 78 1 Evt.a (fun x y => { x with a := y }) 1 [1, 0] := ⟨Evt.l1, by kernel_rfl⟩
theorem f78_2 : FldOk Tryz.prog 78 2 Evt.b (fun x y => { x with b := y }) 2 [1, 1, 0] := ⟨Evt.l2, by kernel_rfl⟩
theorem f78_3 : FldOk Tryz.prog 78 3 Evt.pay (fun x y => { x with pay := y }) 3 [1, 1, 1, 0] := ⟨Evt.l3, by kernel_rfl⟩
theorem f78_4 : FldOk Tryz.prog 78 4 Evt.vote (fun x y => { x with vote := y }) 6 [1, 1, 1, 1] := ⟨Evt.l4, by kernel_rfl⟩
theorem sl22 : SlOk Tryz.prog 22 5 1 (UInt8) := ⟨by kernel_rfl, ty5⟩
theorem sl23 : SlOk Tryz.prog 23 78 80 (Evt) := ⟨by kernel_rfl, ty78⟩
theorem sl26 : SlOk Tryz.prog 26 41 48 (Nod) := ⟨by kernel_rfl, ty41⟩
theorem sl26_NodC : SlOk Tryz.prog 26 41 48 (NodC) := ⟨by kernel_rfl, ty41_NodC⟩
theorem sl26_NodS : SlOk Tryz.prog 26 41 48 (NodS) := ⟨by kernel_rfl, ty41_NodS⟩
theorem sl27 : SlOk Tryz.prog 27 48 32 (Vote) := ⟨by kernel_rfl, ty48⟩
theorem sl27_Vote : SlOk Tryz.prog 27 48 32 (Vote) := ⟨by kernel_rfl, ty48_Vote⟩
theorem sl33 : SlOk Tryz.prog 33 34 24 (List Itm) := ⟨by kernel_rfl, ty34⟩
theorem sl33_CListItm : SlOk Tryz.prog 33 34 24 (CList Itm) := ⟨by kernel_rfl, ty34_CListItm⟩
theorem sl34 : SlOk Tryz.prog 34 60 32 (Itm) := ⟨by kernel_rfl, ty60⟩
theorem sl51 : SlOk Tryz.prog 51 58 24 (Pay) := ⟨by kernel_rfl, ty58⟩
theorem sl61 : SlOk Tryz.prog 61 3 8 (Int) := ⟨by kernel_rfl, ty3⟩
theorem sl93 : SlOk Tryz.prog 93 48 32 (Vote) := ⟨by kernel_rfl, ty48⟩
theorem sl93_Vote : SlOk Tryz.prog 93 48 32 (Vote) := ⟨by kernel_rfl, ty48_Vote⟩
theorem fb100 : fnB Tryz.prog 100 = true := by kernel_rfl
theorem fb101 : fnB Tryz.prog 101 = true := by kernel_rfl
theorem fb102 : fnB Tryz.prog 102 = true := by kernel_rfl
theorem fb103 : fnB Tryz.prog 103 = true := by kernel_rfl
theorem fb104 : fnB Tryz.prog 104 = true := by kernel_rfl
theorem fb105 : fnB Tryz.prog 105 = true := by kernel_rfl
theorem fb106 : fnB Tryz.prog 106 = true := by kernel_rfl
theorem fb107 : fnB Tryz.prog 107 = true := by kernel_rfl
theorem fb108 : fnB Tryz.prog 108 = true := by kernel_rfl
theorem fb109 : fnB Tryz.prog 109 = true := by kernel_rfl
theorem fb110 : fnB Tryz.prog 110 = true := by kernel_rfl
theorem fb111 : fnB Tryz.prog 111 = true := by kernel_rfl
theorem fb112 : fnB Tryz.prog 112 = true := by kernel_rfl
theorem fb113 : fnB Tryz.prog 113 = true := by kernel_rfl
theorem fb114 : fnB Tryz.prog 114 = true := by kernel_rfl
theorem fb115 : fnB Tryz.prog 115 = true := by kernel_rfl
theorem fb116 : fnB Tryz.prog 116 = true := by kernel_rfl
theorem fb117 : fnB Tryz.prog 117 = true := by kernel_rfl
theorem fb118 : fnB Tryz.prog 118 = true := by kernel_rfl
theorem fb119 : fnB Tryz.prog 119 = true := by kernel_rfl
theorem fb120 : fnB Tryz.prog 120 = true := by kernel_rfl
theorem fb121 : fnB Tryz.prog 121 = true := by kernel_rfl
theorem fb122 : fnB Tryz.prog 122 = true := by kernel_rfl
theorem fb123 : fnB Tryz.prog 123 = true := by kernel_rfl
theorem fb124 : fnB Tryz.prog 124 = true := by kernel_rfl
theorem fb126 : fnB Tryz.prog 126 = true := by kernel_rfl
theorem fb127 : fnB Tryz.prog 127 = true := by kernel_rfl
theorem fb128 : fnB Tryz.prog 128 = true := by kernel_rfl
theorem fb129 : fnB Tryz.prog 129 = true := by kernel_rfl
theorem fb130 : fnB Tryz.prog 130 = true := by kernel_rfl
theorem fb131 : fnB Tryz.prog 131 = true := by kernel_rfl
theorem fb132 : fnB Tryz.prog 132 = true := by kernel_rfl
theorem fb133 : fnB Tryz.prog 133 = true := by kernel_rfl
theorem fb134 : fnB Tryz.prog 134 = true := by kernel_rfl
theorem fb137 : fnB Tryz.prog 137 = true := by kernel_rfl
theorem fb142 : fnB Tryz.prog 142 = true := by kernel_rfl
theorem fb143 : fnB Tryz.prog 143 = true := by kernel_rfl
theorem fb145 : fnB Tryz.prog 145 = true := by kernel_rfl
theorem fb146 : fnB Tryz.prog 146 = true := by kernel_rfl
theorem fb148 : fnB Tryz.prog 148 = true := by kernel_rfl
theorem fb149 : fnB Tryz.prog 149 = true := by kernel_rfl
theorem fb150 : fnB Tryz.prog 150 = true := by kernel_rfl
theorem fb151 : fnB Tryz.prog 151 = true := by kernel_rfl
theorem fb152 : fnB Tryz.prog 152 = true := by kernel_rfl
theorem fb153 : fnB Tryz.prog 153 = true := by kernel_rfl
theorem fb154 : fnB Tryz.prog 154 = true := by kernel_rfl
theorem fb155 : fnB Tryz.prog 155 = true := by kernel_rfl
theorem fb156 : fnB Tryz.prog 156 = true := by kernel_rfl
theorem fb157 : fnB Tryz.prog 157 = true := by kernel_rfl
theorem fb158 : fnB Tryz.prog 158 = true := by kernel_rfl
theorem fb159 : fnB Tryz.prog 159 = true := by kernel_rfl
theorem fb160 : fnB Tryz.prog 160 = true := by kernel_rfl
theorem fb161 : fnB Tryz.prog 161 = true := by kernel_rfl
theorem fb162 : fnB Tryz.prog 162 = true := by kernel_rfl
theorem fb163 : fnB Tryz.prog 163 = true := by kernel_rfl
theorem fb164 : fnB Tryz.prog 164 = true := by kernel_rfl
theorem fb165 : fnB Tryz.prog 165 = true := by kernel_rfl
theorem fb168 : fnB Tryz.prog 168 = true := by kernel_rfl
theorem fb170 : fnB Tryz.prog 170 = true := by kernel_rfl
theorem fb172 : fnB Tryz.prog 172 = true := by kernel_rfl
theorem fb173 : fnB Tryz.prog 173 = true := by kernel_rfl
theorem fb174 : fnB Tryz.prog 174 = true := by kernel_rfl
theorem fb175 : fnB Tryz.prog 175 = true := by kernel_rfl
theorem fb176 : fnB Tryz.prog 176 = true := by kernel_rfl
theorem fb178 : fnB Tryz.prog 178 = true := by kernel_rfl
theorem fb18 : fnB Tryz.prog 18 = true := by kernel_rfl
theorem fb22 : fnB Tryz.prog 22 = true := by kernel_rfl
theorem fb26 : fnB Tryz.prog 26 = true := by kernel_rfl
theorem fb27 : fnB Tryz.prog 27 = true := by kernel_rfl
theorem fb28 : fnB Tryz.prog 28 = true := by kernel_rfl
theorem fb29 : fnB Tryz.prog 29 = true := by kernel_rfl
theorem fb30 : fnB Tryz.prog 30 = true := by kernel_rfl
theorem fb40 : fnB Tryz.prog 40 = true := by kernel_rfl
theorem fb41 : fnB Tryz.prog 41 = true := by kernel_rfl
theorem fb42 : fnB Tryz.prog 42 = true := by kernel_rfl
theorem fb49 : fnB Tryz.prog 49 = true := by kernel_rfl
theorem fb51 : fnB Tryz.prog 51 = true := by kernel_rfl
theorem fb52 : fnB Tryz.prog 52 = true := by kernel_rfl
theorem fb53 : fnB Tryz.prog 53 = true := by kernel_rfl
theorem fb54 : fnB Tryz.prog 54 = true := by kernel_rfl
theorem fb56 : fnB Tryz.prog 56 = true := by kernel_rfl
theorem fb57 : fnB Tryz.prog 57 = true := by kernel_rfl
theorem fb58 : fnB Tryz.prog 58 = true := by kernel_rfl
theorem fb59 : fnB Tryz.prog 59 = true := by kernel_rfl
theorem fb62 : fnB Tryz.prog 62 = true := by kernel_rfl
theorem fb63 : fnB Tryz.prog 63 = true := by kernel_rfl
theorem fb67 : fnB Tryz.prog 67 = true := by kernel_rfl
theorem fb69 : fnB Tryz.prog 69 = true := by kernel_rfl
theorem fb71 : fnB Tryz.prog 71 = true := by kernel_rfl
theorem fb72 : fnB Tryz.prog 72 = true := by kernel_rfl
theorem fb73 : fnB Tryz.prog 73 = true := by kernel_rfl
theorem fb74 : fnB Tryz.prog 74 = true := by kernel_rfl
theorem fb75 : fnB Tryz.prog 75 = true := by kernel_rfl
theorem fb76 : fnB Tryz.prog 76 = true := by kernel_rfl
theorem fb77 : fnB Tryz.prog 77 = true := by kernel_rfl
theorem fb78 : fnB Tryz.prog 78 = true := by kernel_rfl
theorem fb79 : fnB Tryz.prog 79 = true := by kernel_rfl
theorem fb80 : fnB Tryz.prog 80 = true := by kernel_rfl
theorem fb81 : fnB Tryz.prog 81 = true := by kernel_rfl
theorem fb82 : fnB Tryz.prog 82 = true := by kernel_rfl
theorem fb83 : fnB Tryz.prog 83 = true := by kernel_rfl
theorem fb84 : fnB Tryz.prog 84 = true := by kernel_rfl
theorem fb85 : fnB Tryz.prog 85 = true := by kernel_rfl
theorem fb87 : fnB Tryz.prog 87 = true := by kernel_rfl
theorem fb92 : fnB Tryz.prog 92 = true := by kernel_rfl
theorem fb96 : fnB Tryz.prog 96 = true := by kernel_rfl
theorem fb98 : fnB Tryz.prog 98 = true := by kernel_rfl
theorem fb99 : fnB Tryz.prog 99 = true := by kernel_rfl
theorem pl126 : plB Tryz.prog 126 = true := by kernel_rfl
theorem pl29 : plB Tryz.prog 29 = true := by kernel_rfl
theorem pl41 : plB Tryz.prog 41 = true := by kernel_rfl
theorem pl48 : plB Tryz.prog 48 = true := by kernel_rfl
theorem pl58 : plB Tryz.prog 58 = true := by kernel_rfl
theorem pl60 : plB Tryz.prog 60 = true := by kernel_rfl
theorem pl78 : plB Tryz.prog 78 = true := by kernel_rfl
theorem ui3 : Tryz.prog.underlying 3 = some (.int .i64) := by kernel_rfl
theorem ul23 : Tryz.prog.underlying 23 = some (.slice 78) := by kernel_rfl
theorem ul26 : Tryz.prog.underlying 26 = some (.slice 41) := by kernel_rfl
theorem ul27 : Tryz.prog.underlying 27 = some (.slice 48) := by kernel_rfl
theorem ul33 : Tryz.prog.underlying 33 = some (.slice 34) := by kernel_rfl
theorem ul34 : Tryz.prog.underlying 34 = some (.slice 60) := by kernel_rfl
theorem ul51 : Tryz.prog.underlying 51 = some (.slice 58) := by kernel_rfl
theorem ul61 : Tryz.prog.underlying 61 = some (.slice 3) := by kernel_rfl
theorem up155 : Tryz.prog.underlying 155 = some (.pointer (Tryz.prog.pointee 155)) := by kernel_rfl
theorem us5 : (Tryz.prog.underlying 5).isSome = true := by kernel_rfl
theorem weq60 : EqOk Tryz.prog 60 Itm := EqOk.itm (Ti := 3) (Tp := 58) (by kernel_rfl) (by kernel_rfl) (by kernel_rfl) (by kernel_rfl) ty3 (by kernel_rfl) ty58 (by kernel_rfl) (by kernel_rfl) (by kernel_rfl)
theorem mixed : Tryz.prog.follows .mixedOrders = true := by kernel_rfl
end Go.Proofs.YtmdhfalfppkpeaaGreat

/- Payments and chains. -/
set_option linter.unusedVariables false
namespace Go.Proofs.YtmdhfalfppkpeaaGreat
open Go Go.Wt
theorem within_ct (n lo hi : Int) : CtP Tryz.prog 83 [.v n, .v lo, .v hi] (.v (within n lo hi)) := by
  refine Ct.intro Tryz.func83 rfl rfl ?_
  all_goals refine awp_seq (awp_region (id := 0) ?_)
  all_goals refine awpOps_cons (op_as rfl (Conv.of rfl) rfl) ?_
  all_goals refine awpOps_nil ?_
  all_goals refine awp_seq (awp_region (id := 1) ?_)
  all_goals refine awpOps_cons (op_mv rfl (Conv.of rfl) rfl) ?_
  all_goals refine awpOps_cons (op_mv rfl (Conv.of rfl) rfl) ?_
  all_goals refine awpOps_cons (op_geq rfl rfl rfl) ?_
  all_goals refine awpOps_cons (op_mv rfl (Conv.of rfl) rfl) ?_
  all_goals refine g_split (t := 10) rfl (fun h => ?_) (fun h => ?_)
  all_goals first | refine awpOps_cons (g_off rfl rfl rfl rfl rfl) ?_ | refine awpOps_cons (g_on rfl rfl rfl (op_mv rfl (Conv.of rfl) rfl)) ?_
  all_goals first | refine awpOps_cons (g_off rfl rfl rfl rfl rfl) ?_ | refine awpOps_cons (g_on rfl rfl rfl (op_mv rfl (Conv.of rfl) rfl)) ?_
  all_goals first | refine awpOps_cons (g_off rfl rfl rfl rfl rfl) ?_ | refine awpOps_cons (g_on rfl rfl rfl (op_leq rfl rfl rfl)) ?_
  all_goals refine awpOps_cons (op_pick rfl rfl rfl rfl) ?_
  all_goals refine awpOps_cons (op_as rfl (Conv.of rfl) rfl) ?_
  all_goals refine awpOps_nil ?_
  all_goals refine awp_ret ?_
  all_goals refine finP (.v rfl (Conv.of rfl)) rfl ?_
  all_goals (simp only [FV.av, within]; first | (rw [h]; rfl) | simp_all)
theorem epochOk_ct (n : Int) : CtP Tryz.prog 145 [.v n] (.v (within n 1 30)) := by
  refine Ct.intro Tryz.func145 rfl rfl ?_
  all_goals refine awp_seq (awp_region (id := 0) ?_)
  all_goals refine awpOps_cons (op_as rfl (Conv.of rfl) rfl) ?_
  all_goals refine awpOps_nil ?_
  all_goals refine awp_seq (awp_region (id := 1) ?_)
  all_goals refine awpOps_cons (op_mv rfl (Conv.of rfl) rfl) ?_
  all_goals refine awpOps_cons (op_call fb83 (.cons rfl (Conv.of rfl) (.cons rfl (Conv.of rfl) (.cons rfl (Conv.of rfl) (.nil _)))) (within_ct _ _ _) (argOk rfl rfl (argOk rfl rfl (argOk rfl rfl argOk0))) rfl rfl) ?_
  all_goals refine awpOps_cons (op_as rfl (Conv.of rfl) rfl) ?_
  all_goals refine awpOps_nil ?_
  refine awp_ret ?_
  exact finP (.v rfl (Conv.of rfl)) rfl rfl
theorem payOk_ct (p : Pay) : CtP Tryz.prog 146 [.v p] (.v (payOk p)) := by
  refine Ct.intro Tryz.func146 rfl rfl ?_
  all_goals refine awp_seq (awp_region (id := 0) ?_)
  all_goals refine awpOps_cons (op_box (o := 0) ty58 rfl (Conv.of rfl) rfl rfl) ?_
  all_goals refine awpOps_cons (op_as rfl (Conv.of rfl) rfl) ?_
  all_goals refine awpOps_nil ?_
  all_goals refine awp_seq (awp_region (id := 1) ?_)
  all_goals refine awpOps_cons (op_fab f58_0 rfl rfl) ?_
  all_goals refine awpOps_cons (op_ld ty3 rfl rfl rfl) ?_
  all_goals refine awpOps_cons (op_call fb83 (.cons rfl (Conv.of rfl) (.cons rfl (Conv.of rfl) (.cons rfl (Conv.of rfl) (.nil _)))) (within_ct _ _ _) (argOk rfl rfl (argOk rfl rfl (argOk rfl rfl argOk0))) rfl rfl) ?_
  all_goals refine awpOps_cons (op_mv rfl (Conv.of rfl) rfl) ?_
  all_goals refine g_split (t := 6) rfl (fun h => ?_) (fun h => ?_)
  all_goals first | refine awpOps_cons (g_off rfl rfl rfl rfl rfl) ?_ | refine awpOps_cons (g_on rfl rfl rfl (op_fab f58_1 rfl rfl)) ?_
  all_goals first | refine awpOps_cons (g_off rfl rfl rfl rfl rfl) ?_ | refine awpOps_cons (g_on rfl rfl rfl (op_ld ty3 rfl rfl rfl)) ?_
  all_goals first | refine awpOps_cons (g_off rfl rfl rfl rfl rfl) ?_ | refine awpOps_cons (g_on rfl rfl rfl (op_call fb83 (.cons rfl (Conv.of rfl) (.cons rfl (Conv.of rfl) (.cons rfl (Conv.of rfl) (.nil _)))) (within_ct _ _ _) (argOk rfl rfl (argOk rfl rfl (argOk rfl rfl argOk0))) rfl rfl)) ?_
  all_goals refine awpOps_cons (op_pick rfl rfl rfl rfl) ?_
  all_goals refine awpOps_cons (op_mv rfl (Conv.of rfl) rfl) ?_
  all_goals first | refine g_lit (t := 11) (b := false) rfl ?_ | refine g_split (t := 11) rfl (fun h => ?_) (fun h => ?_)
  all_goals first | refine awpOps_cons (g_off rfl rfl rfl rfl rfl) ?_ | refine awpOps_cons (g_on rfl rfl rfl (op_fab f58_0 rfl rfl)) ?_
  all_goals first | refine awpOps_cons (g_off rfl rfl rfl rfl rfl) ?_ | refine awpOps_cons (g_on rfl rfl rfl (op_ld ty3 rfl rfl rfl)) ?_
  all_goals first | refine awpOps_cons (g_off rfl rfl rfl rfl rfl) ?_ | refine awpOps_cons (g_on rfl rfl rfl (op_fab f58_1 rfl rfl)) ?_
  all_goals first | refine awpOps_cons (g_off rfl rfl rfl rfl rfl) ?_ | refine awpOps_cons (g_on rfl rfl rfl (op_ld ty3 rfl rfl rfl)) ?_
  all_goals first | refine awpOps_cons (g_off rfl rfl rfl rfl rfl) ?_ | refine awpOps_cons (g_on rfl rfl rfl (op_neq rfl rfl rfl)) ?_
  all_goals refine awpOps_cons (op_pick rfl rfl rfl rfl) ?_
  all_goals refine awpOps_cons (op_mv rfl (Conv.of rfl) rfl) ?_
  all_goals first | refine g_lit (t := 18) (b := false) rfl ?_ | refine g_split (t := 18) rfl (fun h => ?_) (fun h => ?_)
  all_goals first | refine awpOps_cons (g_off rfl rfl rfl rfl rfl) ?_ | refine awpOps_cons (g_on rfl rfl rfl (op_fab f58_2 rfl rfl)) ?_
  all_goals first | refine awpOps_cons (g_off rfl rfl rfl rfl rfl) ?_ | refine awpOps_cons (g_on rfl rfl rfl (op_ld ty3 rfl rfl rfl)) ?_
  all_goals first | refine awpOps_cons (g_off rfl rfl rfl rfl rfl) ?_ | refine awpOps_cons (g_on rfl rfl rfl (op_call fb83 (.cons rfl (Conv.of rfl) (.cons rfl (Conv.of rfl) (.cons rfl (Conv.of rfl) (.nil _)))) (within_ct _ _ _) (argOk rfl rfl (argOk rfl rfl (argOk rfl rfl argOk0))) rfl rfl)) ?_
  all_goals refine awpOps_cons (op_pick rfl rfl rfl rfl) ?_
  all_goals refine awpOps_cons (op_as rfl (Conv.of rfl) rfl) ?_
  all_goals refine awpOps_nil ?_
  all_goals refine awp_ret ?_
  all_goals refine finP (.v rfl (Conv.of rfl)) rfl ?_
  all_goals simp_all [FV.av, payOk]
set_option maxHeartbeats 1000000 in
theorem chainOk_ct (c : List Itm) : CtP Tryz.prog 92 [.v c] (.v (chainOk c)) := by
  refine Ct.intro Tryz.func92 rfl rfl ?_
  refine awp_bigL 0 rfl (fun hB => ?_)
  all_goals refine awp_seq (awp_region (id := 0) ?_)
  all_goals refine awpOps_cons (op_as rfl (Conv.of rfl) rfl) ?_
  all_goals refine awpOps_nil ?_
  all_goals refine awp_seq (awp_seq (awp_region (id := 1) ?_))
  all_goals refine awpOps_cons (op_mv rfl (Conv.of rfl) rfl) ?_
  all_goals refine awpOps_cons (op_len sl34 rfl rfl) ?_
  all_goals refine awpOps_cons (op_mv rfl (Conv.of rfl) rfl) ?_
  all_goals refine awpOps_nil ?_
  refine awp_block ?_
  refine awp_loop' (fun n s => ∃ (k : Nat), ∃ (hn : n + k = c.length), ∃ (hall : ∀ (j : Nat) (x : Itm), j < k → c[j]? = some x → itemOk c j x = true), s = mkSt 41 [(0, .v c), (5, .v c), (6, .v (c.length : Int)), (7, .v (k : Int))] []) (c.length) ⟨0, by omega, fun j x h => by omega, rfl⟩ (Le.mk rfl (tle rfl (rfl) rfl (tle rfl (rfl) rfl (tle rfl (rfl) rfl (tle rfl (rfl) rfl tln)))) oln noS) ?_
  rintro n s ⟨k, hn, hall, rfl⟩
  all_goals refine awp_seq (awp_region (id := 2) ?_)
  all_goals refine awpOps_cons (op_lss rfl rfl rfl) ?_
  all_goals refine awpOps_nil ?_
  refine awp_seq (awp_cond rfl (fun h => ?_) (fun h => ?_))
  · have hlt : k < c.length := by simpa using h
    have hx : c[k]? = some c[k] := List.getElem?_eq_getElem hlt
    refine awp_skip ?_
    refine awp_seq (awp_block ?_)
    all_goals refine awp_seq (awp_region (id := 3) ?_)
    all_goals refine awpOps_cons (op_mv rfl (Conv.of rfl) rfl) ?_
    all_goals refine awpOps_cons (op_ix sl34 rfl rfl rfl (by omega) hx) ?_
    all_goals refine awpOps_cons (op_ldr ty60 rfl rfl) ?_
    all_goals refine awpOps_cons (op_alloc (o := 0) z60 rfl rfl) ?_
    all_goals refine awpOps_cons (op_as rfl (Conv.of rfl) rfl) ?_
    all_goals refine awpOps_cons (op_st ty60 rfl rfl (Conv.of rfl) rfl) ?_
    all_goals refine awpOps_nil ?_
    have hprev : decide ((0 : Int) < k) = true → 0 ≤ (k : Int) - 1 ∧ c[((k : Int) - 1).toNat]? = some (c[k - 1]'(by omega)) := by
      intro h0
      have h1 : 0 < k := by simpa using h0
      have e : ((k : Int) - 1).toNat = k - 1 := by omega
      exact ⟨by omega, by rw [e]; exact List.getElem?_eq_getElem (by omega)⟩
    refine awp_seq_to (s' := mkSt 41 [(0, .v c), (5, .v c), (6, .v (c.length : Int)), (7, .v (k : Int)), (36, .v (!itemOk c k c[k]))] []) ?_ ?_
    · all_goals refine dr_start (id := 4) ?_
      all_goals refine dr_cons (op_fab f60_0 rfl rfl) ?_
      all_goals refine dr_cons (op_ld ty3 rfl rfl rfl) ?_
      all_goals refine dr_cons (op_call fb145 (.cons rfl (Conv.of rfl) (.nil _)) (epochOk_ct _) (argOk rfl rfl argOk0) rfl rfl) ?_
      all_goals refine dr_cons (op_not rfl rfl) ?_
      all_goals refine dr_cons (op_mv rfl (Conv.of rfl) rfl) ?_
      all_goals refine dr_split (t := 16) rfl (fun h => ?_) (fun h => ?_)
      all_goals first | refine dr_cons (g_off rfl rfl rfl rfl rfl) ?_ | refine dr_cons (g_on rfl rfl rfl (op_fab f60_1 rfl rfl)) ?_
      all_goals first | refine dr_cons (g_off rfl rfl rfl rfl rfl) ?_ | refine dr_cons (g_on rfl rfl rfl (op_ld ty58 rfl rfl rfl)) ?_
      all_goals first | refine dr_cons (g_off rfl rfl rfl rfl rfl) ?_ | refine dr_cons (g_on rfl rfl rfl (op_call fb146 (.cons rfl (Conv.of rfl) (.nil _)) (payOk_ct _) (argOk rfl rfl argOk0) rfl rfl)) ?_
      all_goals first | refine dr_cons (g_off rfl rfl rfl rfl rfl) ?_ | refine dr_cons (g_on rfl rfl rfl (op_not rfl rfl)) ?_
      all_goals refine dr_cons (op_pick rfl rfl rfl rfl) ?_
      all_goals refine dr_cons (op_mv rfl (Conv.of rfl) rfl) ?_
      all_goals first | refine dr_lit (t := 22) (b := true) rfl ?_ | refine dr_split (t := 22) rfl (fun h => ?_) (fun h => ?_)
      all_goals first | refine dr_cons (g_off rfl rfl rfl rfl rfl) ?_ | refine dr_cons (g_on rfl rfl rfl (op_mv rfl (Conv.of rfl) rfl)) ?_
      all_goals first | refine dr_cons (g_off rfl rfl rfl rfl rfl) ?_ | refine dr_cons (g_on rfl rfl rfl (op_gtr rfl rfl rfl)) ?_
      all_goals first | refine dr_cons (g_off rfl rfl rfl rfl rfl) ?_ | refine dr_cons (g_on rfl rfl rfl (op_mv rfl (Conv.of rfl) rfl)) ?_
      all_goals first | refine dr_ulit (t := 25) rfl ?_ | refine dr_split (t := 25) rfl (fun h => ?_) (fun h => ?_)
      all_goals first | refine dr_cons (g_off rfl rfl rfl rfl rfl) ?_ | refine dr_cons (g_und rfl rfl rfl) ?_ | refine dr_cons (g_on rfl rfl rfl (op_mv rfl (Conv.of rfl) rfl)) ?_
      all_goals first | refine dr_cons (g_off rfl rfl rfl rfl rfl) ?_ | refine dr_cons (g_und rfl rfl rfl) ?_ | refine dr_cons (g_on rfl rfl rfl (op_mv rfl (Conv.of rfl) rfl)) ?_
      all_goals first | refine dr_cons (g_off rfl rfl rfl rfl rfl) ?_ | refine dr_cons (g_und rfl rfl rfl) ?_ | refine dr_cons (g_on rfl rfl rfl (op_sub rfl rfl rfl (by omega))) ?_
      all_goals first | refine dr_cons (g_off rfl rfl rfl rfl rfl) ?_ | refine dr_cons (g_und rfl rfl rfl) ?_ | refine dr_cons (g_on rfl rfl rfl (op_ix sl34 rfl rfl rfl (hprev h).1 (hprev h).2)) ?_
      all_goals first | refine dr_cons (g_off rfl rfl rfl rfl rfl) ?_ | refine dr_cons (g_und rfl rfl rfl) ?_ | refine dr_cons (g_on rfl rfl rfl (op_far f60_0 rfl rfl)) ?_
      all_goals first | refine dr_cons (g_off rfl rfl rfl rfl rfl) ?_ | refine dr_cons (g_und rfl rfl rfl) ?_ | refine dr_cons (g_on rfl rfl rfl (op_ldr ty3 rfl rfl)) ?_
      all_goals first | refine dr_cons (g_off rfl rfl rfl rfl rfl) ?_ | refine dr_cons (g_und rfl rfl rfl) ?_ | refine dr_cons (g_on rfl rfl rfl (op_fab f60_0 rfl rfl)) ?_
      all_goals first | refine dr_cons (g_off rfl rfl rfl rfl rfl) ?_ | refine dr_cons (g_und rfl rfl rfl) ?_ | refine dr_cons (g_on rfl rfl rfl (op_ld ty3 rfl rfl rfl)) ?_
      all_goals first | refine dr_cons (g_off rfl rfl rfl rfl rfl) ?_ | refine dr_cons (g_und rfl rfl rfl) ?_ | refine dr_cons (g_on rfl rfl rfl (op_geq rfl rfl rfl)) ?_
      all_goals first | refine dr_cons (g_off rfl rfl rfl rfl rfl) ?_ | refine dr_cons (g_on rfl rfl rfl (op_pick rfl rfl rfl rfl)) ?_
      all_goals refine dr_cons (op_pick rfl rfl rfl rfl) ?_
      all_goals refine dr_nil mixed rfl ?_
      all_goals exact Le.mk rfl (tle rfl (rfl) rfl (tle rfl (rfl) rfl (tle rfl (rfl) rfl (tle rfl (rfl) rfl (tle rfl (by (clear hall; simp_all [itemOk_nat, List.getElem?_eq_getElem (show k - 1 < c.length by omega)])) rfl tln))))) oln noS
    refine awp_cond rfl (fun h => ?_) (fun h => ?_)
    · all_goals refine awp_seq (awp_region (id := 5) ?_)
      all_goals refine awpOps_cons (op_as rfl (Conv.of rfl) rfl) ?_
      all_goals refine awpOps_nil ?_
      refine awp_ret ?_
      repeat first | refine rt_seq ?_ | refine rt_block ?_
      refine finP (.v rfl (Conv.of rfl)) rfl ?_
      show AV.v false = _
      rw [chainOk_bad hx (by simpa using h)]
    · refine awp_skip ?_
      all_goals refine awp_region (id := 6) ?_
      all_goals refine awpOps_cons (op_add rfl rfl rfl (by omega)) ?_
      all_goals refine awpOps_cons (op_mv rfl (Conv.of rfl) rfl) ?_
      all_goals refine awpOps_nil ?_
      repeat first | refine nx_seq ?_ | refine nx_block ?_
      exact ⟨n - 1, _, by omega, ⟨k + 1, by omega, fun j x hj hjx => chainOk_more hx hall (by simpa using h) hj hjx, rfl⟩, Le.mk rfl (tle rfl (rfl) rfl (tle rfl (rfl) rfl (tle rfl (rfl) rfl (tle rfl (rfl) rfl tln)))) oln noS⟩
  · refine awp_exit ?_
    repeat refine ex_seq ?_
    refine ex_block ?_
    all_goals refine awp_seq (awp_region (id := 7) ?_)
    all_goals refine awpOps_cons (op_mv rfl (Conv.of rfl) rfl) ?_
    all_goals refine awpOps_cons (op_len sl34 rfl rfl) ?_
    all_goals refine awpOps_cons (op_leq rfl rfl rfl) ?_
    all_goals refine awpOps_cons (op_as rfl (Conv.of rfl) rfl) ?_
    all_goals refine awpOps_nil ?_
    refine awp_ret ?_
    repeat first | refine rt_seq ?_ | refine rt_block ?_
    refine finP (.v rfl (Conv.of rfl)) rfl ?_
    show AV.v _ = _
    rw [chainOk_good (k := k) (by simpa using h) hall]
end Go.Proofs.YtmdhfalfppkpeaaGreat

/- Rows that are the same, copied, searched. -/
set_option linter.unusedVariables false
namespace Go.Proofs.YtmdhfalfppkpeaaGreat
open Go Go.Wt
theorem equal_ct (a b : List Itm) : CtP Tryz.prog 162 [.v a, .v b] (.v (decide (a = b))) := by
  refine Ct.intro Tryz.func162 rfl rfl ?_
  refine awp_bigL 0 rfl (fun hB => ?_)
  all_goals refine awp_seq (awp_region (id := 0) ?_)
  all_goals refine awpOps_cons (op_as rfl (Conv.of rfl) rfl) ?_
  all_goals refine awpOps_nil ?_
  all_goals refine awp_seq (awp_seq (awp_region (id := 1) ?_))
  all_goals refine awpOps_cons (op_mv rfl (Conv.of rfl) rfl) ?_
  all_goals refine awpOps_cons (op_len sl34 rfl rfl) ?_
  all_goals refine awpOps_cons (op_mv rfl (Conv.of rfl) rfl) ?_
  all_goals refine awpOps_cons (op_len sl34 rfl rfl) ?_
  all_goals refine awpOps_cons (op_neq rfl rfl rfl) ?_
  all_goals refine awpOps_nil ?_
  refine awp_cond rfl (fun h => ?_) (fun h => ?_)
  · all_goals refine awp_seq (awp_region (id := 2) ?_)
    all_goals refine awpOps_cons (op_as rfl (Conv.of rfl) rfl) ?_
    all_goals refine awpOps_nil ?_
    refine awp_ret ?_
    repeat first | refine rt_seq ?_ | refine rt_block ?_
    refine finP (.v rfl (Conv.of rfl)) rfl ?_
    show AV.v false = _
    have : a ≠ b := by intro e; subst e; simp at h
    simp [this]
  · refine awp_skip ?_
    have hlen : a.length = b.length := by simp at h; omega
    all_goals refine awp_seq (awp_seq (awp_region (id := 3) ?_))
    all_goals refine awpOps_cons (op_mv rfl (Conv.of rfl) rfl) ?_
    all_goals refine awpOps_cons (op_len sl34 rfl rfl) ?_
    all_goals refine awpOps_cons (op_mv rfl (Conv.of rfl) rfl) ?_
    all_goals refine awpOps_nil ?_
    refine awp_block ?_
    refine awp_loop' (fun n s => ∃ (k : Nat), ∃ (hn : n + k = a.length), ∃ (hall : decide (a = b) = decide (a.drop k = b.drop k)), s = mkSt 26 [(0, .v a), (1, .v b), (12, .v (a.length : Int)), (13, .v (k : Int))] []) (a.length) ⟨0, by omega, rfl, rfl⟩ (Le.mk rfl (tle rfl (rfl) rfl (tle rfl (rfl) rfl (tle rfl (rfl) rfl (tle rfl (rfl) rfl tln)))) oln noS) ?_
    rintro n s ⟨k, hn, hall, rfl⟩
    all_goals refine awp_seq (awp_region (id := 4) ?_)
    all_goals refine awpOps_cons (op_lss rfl rfl rfl) ?_
    all_goals refine awpOps_nil ?_
    refine awp_seq (awp_cond rfl (fun h => ?_) (fun h => ?_))
    · have hlt : k < a.length := by simpa using h
      have hx : a[k]? = some a[k] := List.getElem?_eq_getElem hlt
      have hy : b[k]? = some (b[k]'(by omega)) := List.getElem?_eq_getElem (by omega)
      have hs := same_drop hx hy
      refine awp_skip ?_
      refine awp_seq (awp_block ?_)
      all_goals refine awp_seq (awp_region (id := 5) ?_)
      all_goals refine awpOps_cons (op_mv rfl (Conv.of rfl) rfl) ?_
      all_goals refine awpOps_cons (op_as rfl (Conv.of rfl) rfl) ?_
      all_goals refine awpOps_nil ?_
      all_goals refine awp_seq (dr_start (id := 6) ?_)
      all_goals refine dr_cons (op_mv rfl (Conv.of rfl) rfl) ?_
      all_goals refine dr_cons (op_mv rfl (Conv.of rfl) rfl) ?_
      all_goals refine dr_cons (op_ix sl34 rfl rfl rfl (by omega) hx) ?_
      all_goals refine dr_cons (op_ldr ty60 rfl rfl) ?_
      all_goals refine dr_cons (op_mv rfl (Conv.of rfl) rfl) ?_
      all_goals refine dr_cons (op_mv rfl (Conv.of rfl) rfl) ?_
      all_goals refine dr_cons (op_ix sl34 rfl rfl rfl (by omega) hy) ?_
      all_goals refine dr_cons (op_ldr ty60 rfl rfl) ?_
      all_goals refine dr_cons (op_nea weq60 rfl rfl rfl) ?_
      all_goals refine dr_nil mixed rfl ?_
      refine awp_cond rfl (fun h => ?_) (fun h => ?_)
      · all_goals refine awp_seq (awp_region (id := 7) ?_)
        all_goals refine awpOps_cons (op_as rfl (Conv.of rfl) rfl) ?_
        all_goals refine awpOps_nil ?_
        refine awp_ret ?_
        repeat first | refine rt_seq ?_ | refine rt_block ?_
        refine finP (.v rfl (Conv.of rfl)) rfl ?_
        show AV.v false = _
        have h' : decide (a[k] = b[k]) = false := by simpa using h
        rw [hall, hs, h', Bool.false_and]
      · refine awp_skip ?_
        all_goals refine awp_region (id := 8) ?_
        all_goals refine awpOps_cons (op_add rfl rfl rfl (by omega)) ?_
        all_goals refine awpOps_cons (op_mv rfl (Conv.of rfl) rfl) ?_
        all_goals refine awpOps_nil ?_
        have h' : decide (a[k] = b[k]) = true := by simpa using h
        repeat first | refine nx_seq ?_ | refine nx_block ?_
        exact ⟨n - 1, _, by omega, ⟨k + 1, by omega, by rw [hall, hs, h', Bool.true_and], rfl⟩, Le.mk rfl (tle rfl (rfl) rfl (tle rfl (rfl) rfl (tle rfl (rfl) rfl (tle rfl (rfl) rfl tln)))) oln noS⟩
    · refine awp_exit ?_
      repeat refine ex_seq ?_
      refine ex_block ?_
      have hk : a.length ≤ k := by simpa using h
      all_goals refine awp_seq (awp_region (id := 9) ?_)
      all_goals refine awpOps_cons (op_as rfl (Conv.of rfl) rfl) ?_
      all_goals refine awpOps_nil ?_
      refine awp_ret ?_
      repeat first | refine rt_seq ?_ | refine rt_block ?_
      refine finP (.v rfl (Conv.of rfl)) rfl ?_
      show AV.v true = _
      rw [hall, drop_end hk, drop_end (by omega : b.length ≤ k)]
      simp
theorem cloneI_ct (a : List Itm) (ha : a.length ≤ 1000000) : CtP Tryz.prog 123 [.v a] (.v (OList.mk a true)) := by
  refine Ct.intro Tryz.func123 rfl rfl ?_
  all_goals refine awp_seq (awp_region (id := 0) ?_)
  all_goals refine awpOps_cons (op_as rfl (Conv.of rfl) rfl) ?_
  all_goals refine awpOps_nil ?_
  all_goals refine awp_seq (awp_seq (awp_region (id := 1) ?_))
  all_goals refine awpOps_cons (op_mv rfl (Conv.of rfl) rfl) ?_
  refine awpOps_nil? sl34 rfl rfl (fun b hb => ?_)
  refine awpOps_nil ?_
  refine awp_cond rfl (fun h => ?_) (fun h => ?_)
  · all_goals refine awp_seq (awp_region (id := 2) ?_)
    all_goals refine awpOps_cons (op_as rfl (Conv.of rfl) rfl) ?_
    all_goals refine awpOps_nil ?_
    refine awp_ret ?_
    repeat first | refine rt_seq ?_ | refine rt_block ?_
    refine ⟨_, _, res1 (ol := []) (r := .v (OList.mk a true)) (.rt rfl ?_) (by intro o ho; cases ho) trivial noS, rfl, rfl⟩
    rw [hb h]; exact Conv.no
  · refine awp_skip ?_
    all_goals refine awp_seq (awp_region (id := 3) ?_)
    all_goals refine awpOps_cons (op_bsl sl34 z60 (.nil _) rfl (by decide) rfl) ?_
    all_goals refine awpOps_cons (op_mv rfl (Conv.of rfl) rfl) ?_
    all_goals refine awpOps_cons (op_app sl34 z60 ul34 rfl rfl rfl (by (simp; omega)) (by (simp; omega)) rfl rfl) ?_
    all_goals refine awpOps_cons (op_asl rfl rfl rfl rfl) ?_
    all_goals refine awpOps_nil ?_
    refine awp_ret ?_
    repeat first | refine rt_seq ?_ | refine rt_block ?_
    exact finM rfl rfl (by simp)
theorem clipI_ct (a : OList Itm) : CtP Tryz.prog 122 [.v a.l] (.v (CList.mk a.l)) := by
  refine Ct.intro Tryz.func122 rfl rfl ?_
  all_goals refine awp_seq (awp_region (id := 0) ?_)
  all_goals refine awpOps_cons (op_as rfl (Conv.of rfl) rfl) ?_
  all_goals refine awpOps_nil ?_
  all_goals refine awp_seq (awp_region (id := 1) ?_)
  all_goals refine awpOps_cons (op_mv rfl (Conv.of rfl) rfl) ?_
  all_goals refine awpOps_cons (op_mv rfl (Conv.of rfl) rfl) ?_
  all_goals refine awpOps_cons (op_len sl34 rfl rfl) ?_
  all_goals refine awpOps_cons (op_mv rfl (Conv.of rfl) rfl) ?_
  all_goals refine awpOps_cons (op_len sl34 rfl rfl) ?_
  all_goals refine awpOps_cons (op_slhm sl34 rfl rfl rfl rfl (by simp)) ?_
  all_goals refine awpOps_cons (op_as rfl (Conv.of rfl) rfl) ?_
  all_goals refine awpOps_nil ?_
  refine awp_ret ?_
  repeat first | refine rt_seq ?_ | refine rt_block ?_
  refine finP (.v rfl (Conv.of rfl)) rfl ?_
  show AV.v (CList.mk _) = _
  simp
theorem cloneV_ct (a : List Vote) (ha : a.length ≤ 1000000) : CtP Tryz.prog 173 [.v a] (.v (OList.mk a true)) := by
  refine Ct.intro Tryz.func173 rfl rfl ?_
  all_goals refine awp_seq (awp_region (id := 0) ?_)
  all_goals refine awpOps_cons (op_as rfl (Conv.of rfl) rfl) ?_
  all_goals refine awpOps_nil ?_
  all_goals refine awp_seq (awp_seq (awp_region (id := 1) ?_))
  all_goals refine awpOps_cons (op_mv rfl (Conv.of rfl) rfl) ?_
  refine awpOps_nil? sl27 rfl rfl (fun b hb => ?_)
  refine awpOps_nil ?_
  refine awp_cond rfl (fun h => ?_) (fun h => ?_)
  · all_goals refine awp_seq (awp_region (id := 2) ?_)
    all_goals refine awpOps_cons (op_as rfl (Conv.of rfl) rfl) ?_
    all_goals refine awpOps_nil ?_
    refine awp_ret ?_
    repeat first | refine rt_seq ?_ | refine rt_block ?_
    refine ⟨_, _, res1 (ol := []) (r := .v (OList.mk a true)) (.rt rfl ?_) (by intro o ho; cases ho) trivial noS, rfl, rfl⟩
    rw [hb h]; exact Conv.no
  · refine awp_skip ?_
    all_goals refine awp_seq (awp_region (id := 3) ?_)
    all_goals refine awpOps_cons (op_bsl sl27 z48 (.nil _) rfl (by decide) rfl) ?_
    all_goals refine awpOps_cons (op_mv rfl (Conv.of rfl) rfl) ?_
    all_goals refine awpOps_cons (op_app sl27 z48 ul27 rfl rfl rfl (by (simp; omega)) (by (simp; omega)) rfl rfl) ?_
    all_goals refine awpOps_cons (op_asl rfl rfl rfl rfl) ?_
    all_goals refine awpOps_nil ?_
    refine awp_ret ?_
    repeat first | refine rt_seq ?_ | refine rt_block ?_
    exact finM rfl rfl (by simp)
theorem clipV_ct (a : OList Vote) : CtP Tryz.prog 96 [.v a.l] (.v (CList.mk a.l)) := by
  refine Ct.intro Tryz.func96 rfl rfl ?_
  all_goals refine awp_seq (awp_region (id := 0) ?_)
  all_goals refine awpOps_cons (op_as rfl (Conv.of rfl) rfl) ?_
  all_goals refine awpOps_nil ?_
  all_goals refine awp_seq (awp_region (id := 1) ?_)
  all_goals refine awpOps_cons (op_mv rfl (Conv.of rfl) rfl) ?_
  all_goals refine awpOps_cons (op_mv rfl (Conv.of rfl) rfl) ?_
  all_goals refine awpOps_cons (op_len sl27 rfl rfl) ?_
  all_goals refine awpOps_cons (op_mv rfl (Conv.of rfl) rfl) ?_
  all_goals refine awpOps_cons (op_len sl27 rfl rfl) ?_
  all_goals refine awpOps_cons (op_slhm sl27 rfl rfl rfl rfl (by simp)) ?_
  all_goals refine awpOps_cons (op_as rfl (Conv.of rfl) rfl) ?_
  all_goals refine awpOps_nil ?_
  refine awp_ret ?_
  repeat first | refine rt_seq ?_ | refine rt_block ?_
  refine finP (.v rfl (Conv.of rfl)) rfl ?_
  show AV.v (CList.mk _) = _
  simp
theorem clipC_ct (a : OList (CList Itm)) : CtP Tryz.prog 163 [.v a.l] (.v (CList.mk a.l)) := by
  refine Ct.intro Tryz.func163 rfl rfl ?_
  all_goals refine awp_seq (awp_region (id := 0) ?_)
  all_goals refine awpOps_cons (op_as rfl (Conv.of rfl) rfl) ?_
  all_goals refine awpOps_nil ?_
  all_goals refine awp_seq (awp_region (id := 1) ?_)
  all_goals refine awpOps_cons (op_mv rfl (Conv.of rfl) rfl) ?_
  all_goals refine awpOps_cons (op_mv rfl (Conv.of rfl) rfl) ?_
  all_goals refine awpOps_cons (op_len sl33_CListItm rfl rfl) ?_
  all_goals refine awpOps_cons (op_mv rfl (Conv.of rfl) rfl) ?_
  all_goals refine awpOps_cons (op_len sl33_CListItm rfl rfl) ?_
  all_goals refine awpOps_cons (op_slhm sl33_CListItm rfl rfl rfl rfl (by simp)) ?_
  all_goals refine awpOps_cons (op_as rfl (Conv.of rfl) rfl) ?_
  all_goals refine awpOps_nil ?_
  refine awp_ret ?_
  repeat first | refine rt_seq ?_ | refine rt_block ?_
  refine finP (.v rfl (Conv.of rfl)) rfl ?_
  show AV.v (CList.mk _) = _
  simp
end Go.Proofs.YtmdhfalfppkpeaaGreat

/- Searching with a function; votes. -/
set_option linter.unusedVariables false
namespace Go.Proofs.YtmdhfalfppkpeaaGreat
open Go Go.Wt
theorem indexW_ct (l : List (Vote)) (fn : FuncId) (fa fc : List FV) (hO : Nat → Wt.Obj) (p : Vote → Bool) (hB : fnB Tryz.prog fn = true)
    (hf : ∀ x ∈ l, Ct Tryz.prog fn (avs fa ++ [.v x] ++ avs fc) hO (fun r1 h1 => r1 = .v (p x) ∧ h1 = hO)) (hd : ∀ z ∈ avs fa ++ avs fc, Hand hO z) (hH : ∀ o, obOk (pH hO) (hO o)) :
    Ct Tryz.prog 174 [.v l, .fn fn fa fc] hO (fun r1 h1 => r1 = .v (ixf p l 0) ∧ h1 = hO) := by
  refine Ct.intro Tryz.func174 rfl rfl ?_
  refine awp_bigL 0 rfl (fun hb => ?_)
  all_goals refine awp_seq (awp_region (id := 0) ?_)
  all_goals refine awpOps_cons (op_as rfl (Conv.of rfl) rfl) ?_
  all_goals refine awpOps_nil ?_
  all_goals refine awp_seq (awp_seq (awp_region (id := 1) ?_))
  all_goals refine awpOps_cons (op_mv rfl (Conv.of rfl) rfl) ?_
  all_goals refine awpOps_cons (op_len sl93_Vote rfl rfl) ?_
  all_goals refine awpOps_cons (op_mv rfl (Conv.of rfl) rfl) ?_
  all_goals refine awpOps_nil ?_
  refine awp_block ?_
  refine awp_loop' (fun n s => ∃ (k : Nat), ∃ (hn : n + k = l.length), ∃ (hall : ixf p l 0 = ixf p (l.drop k) k), s = mkStH 19 [(0, .v l), (1, .fn fn fa fc), (7, .v (l.length : Int)), (8, .v (k : Int))] hO) (l.length) ⟨0, by omega, rfl, rfl⟩ (Le.mkH rfl (tlh rfl (rfl) (tlh rfl (rfl) (tlh rfl (rfl) (tlh rfl (rfl) tln)))) rfl) ?_
  rintro n s ⟨k, hn, hall, rfl⟩
  all_goals refine awp_seq (awp_region (id := 2) ?_)
  all_goals refine awpOps_cons (op_lss rfl rfl rfl) ?_
  all_goals refine awpOps_nil ?_
  refine awp_seq (awp_cond rfl (fun h => ?_) (fun h => ?_))
  · have hlt : k < l.length := by simpa using h
    have hx : l[k]? = some l[k] := List.getElem?_eq_getElem hlt
    have hs := ixf_drop (p := p) hx
    refine awp_skip ?_
    refine awp_seq (awp_block ?_)
    all_goals refine awp_seq (awp_region (id := 3) ?_)
    all_goals refine awpOps_cons (op_mv rfl (Conv.of rfl) rfl) ?_
    all_goals refine awpOps_cons (op_as rfl (Conv.of rfl) rfl) ?_
    all_goals refine awpOps_nil ?_
    all_goals refine awp_seq (awp_region (id := 4) ?_)
    all_goals refine awpOps_cons (op_mv rfl (Conv.of (Hand.fn hd).1) rfl) ?_
    all_goals refine awpOps_cons (op_mv rfl (Conv.of rfl) rfl) ?_
    all_goals refine awpOps_cons (op_mv rfl (Conv.of rfl) rfl) ?_
    all_goals refine awpOps_cons (op_ix sl93_Vote rfl rfl rfl (by omega) hx) ?_
    all_goals refine awpOps_cons (op_ldr ty48 rfl rfl) ?_
    all_goals refine awpOps_callH rfl hB (.cons rfl (Conv.of rfl) (.nil _)) rfl (hf _ (List.getElem_mem hlt)) (Hand.with hd (Hand.l1 (Hand.of rfl rfl) Hand.l0)) hH rfl rfl ?_
    all_goals refine awpOps_nil ?_
    refine awp_cond rfl (fun h => ?_) (fun h => ?_)
    · all_goals refine awp_seq (awp_region (id := 5) ?_)
      all_goals refine awpOps_cons (op_mv rfl (Conv.of rfl) rfl) ?_
      all_goals refine awpOps_cons (op_as rfl (Conv.of rfl) rfl) ?_
      all_goals refine awpOps_nil ?_
      refine awp_ret ?_
      repeat first | refine rt_seq ?_ | refine rt_block ?_
      refine finH (r := .v (k : Int)) (.v rfl (Conv.of rfl)) ?_ rfl
      show AV.v (k : Int) = _
      rw [hall, hs, h]; rfl
    · refine awp_skip ?_
      all_goals refine awp_region (id := 6) ?_
      all_goals refine awpOps_cons (op_add rfl rfl rfl (by omega)) ?_
      all_goals refine awpOps_cons (op_mv rfl (Conv.of rfl) rfl) ?_
      all_goals refine awpOps_nil ?_
      repeat first | refine nx_seq ?_ | refine nx_block ?_
      exact ⟨n - 1, _, by omega, ⟨k + 1, by omega, by rw [hall, hs, h]; rfl, rfl⟩, Le.mkH rfl (tlh rfl (rfl) (tlh rfl (rfl) (tlh rfl (rfl) (tlh rfl (rfl) tln)))) rfl⟩
  · refine awp_exit ?_
    repeat refine ex_seq ?_
    refine ex_block ?_
    have hk : l.length ≤ k := by simpa using h
    all_goals refine awp_seq (awp_region (id := 7) ?_)
    all_goals refine awpOps_cons (op_as rfl (Conv.of rfl) rfl) ?_
    all_goals refine awpOps_nil ?_
    refine awp_ret ?_
    repeat first | refine rt_seq ?_ | refine rt_block ?_
    refine finH (r := .v (-1 : Int)) (.v rfl (Conv.of rfl)) ?_ rfl
    show AV.v (-1 : Int) = _
    rw [hall, drop_end hk]; rfl
theorem containsW_ct (l : List (Vote)) (fn : FuncId) (fa fc : List FV) (hO : Nat → Wt.Obj) (p : Vote → Bool) (hB : fnB Tryz.prog fn = true)
    (hf : ∀ x ∈ l, Ct Tryz.prog fn (avs fa ++ [.v x] ++ avs fc) hO (fun r1 h1 => r1 = .v (p x) ∧ h1 = hO)) (hd : ∀ z ∈ avs fa ++ avs fc, Hand hO z) (hH : ∀ o, obOk (pH hO) (hO o)) :
    Ct Tryz.prog 158 [.v l, .fn fn fa fc] hO (fun r1 h1 => r1 = .v (l.any p) ∧ h1 = hO) := by
  refine Ct.intro Tryz.func158 rfl rfl ?_
  all_goals refine awp_seq (awp_region (id := 0) ?_)
  all_goals refine awpOps_cons (op_as rfl (Conv.of rfl) rfl) ?_
  all_goals refine awpOps_nil ?_
  all_goals refine awp_seq (awp_region (id := 1) ?_)
  all_goals refine awpOps_cons (op_mv rfl (Conv.of rfl) rfl) ?_
  all_goals refine awpOps_cons (op_mv rfl (Conv.of (Hand.fn hd).1) rfl) ?_
  all_goals refine awpOps_callH rfl (fb174) (.cons rfl (Conv.of rfl) (.cons rfl (Conv.of (Hand.fn hd).1) (.nil _))) rfl (indexW_ct l fn fa fc hO p hB hf hd hH) (Hand.none (Hand.l1 (Hand.of rfl rfl) (Hand.l1 (Hand.fn hd) Hand.l0))) hH rfl rfl ?_
  all_goals refine awpOps_cons (op_geq rfl rfl rfl) ?_
  all_goals refine awpOps_cons (op_as rfl (Conv.of rfl) rfl) ?_
  all_goals refine awpOps_nil ?_
  refine awp_ret ?_
  repeat first | refine rt_seq ?_ | refine rt_block ?_
  refine finH (r := .v (decide (0 ≤ ixf p l 0))) (.v rfl (Conv.of rfl)) ?_ rfl
  show AV.v _ = _
  rw [ixf_any p l 0 (Int.le_refl _)]
theorem indexV_ct (l : List (Vote)) (fn : FuncId) (fa fc : List FV) (hO : Nat → Wt.Obj) (p : Vote → Bool) (hB : fnB Tryz.prog fn = true)
    (hf : ∀ x ∈ l, Ct Tryz.prog fn (avs fa ++ [.v x] ++ avs fc) hO (fun r1 h1 => r1 = .v (p x) ∧ h1 = hO)) (hd : ∀ z ∈ avs fa ++ avs fc, Hand hO z) (hH : ∀ o, obOk (pH hO) (hO o)) :
    Ct Tryz.prog 124 [.v l, .fn fn fa fc] hO (fun r1 h1 => r1 = .v (ixf p l 0) ∧ h1 = hO) := by
  refine Ct.intro Tryz.func124 rfl rfl ?_
  refine awp_bigL 0 rfl (fun hb => ?_)
  all_goals refine awp_seq (awp_region (id := 0) ?_)
  all_goals refine awpOps_cons (op_as rfl (Conv.of rfl) rfl) ?_
  all_goals refine awpOps_nil ?_
  all_goals refine awp_seq (awp_seq (awp_region (id := 1) ?_))
  all_goals refine awpOps_cons (op_mv rfl (Conv.of rfl) rfl) ?_
  all_goals refine awpOps_cons (op_len sl27_Vote rfl rfl) ?_
  all_goals refine awpOps_cons (op_mv rfl (Conv.of rfl) rfl) ?_
  all_goals refine awpOps_nil ?_
  refine awp_block ?_
  refine awp_loop' (fun n s => ∃ (k : Nat), ∃ (hn : n + k = l.length), ∃ (hall : ixf p l 0 = ixf p (l.drop k) k), s = mkStH 19 [(0, .v l), (1, .fn fn fa fc), (7, .v (l.length : Int)), (8, .v (k : Int))] hO) (l.length) ⟨0, by omega, rfl, rfl⟩ (Le.mkH rfl (tlh rfl (rfl) (tlh rfl (rfl) (tlh rfl (rfl) (tlh rfl (rfl) tln)))) rfl) ?_
  rintro n s ⟨k, hn, hall, rfl⟩
  all_goals refine awp_seq (awp_region (id := 2) ?_)
  all_goals refine awpOps_cons (op_lss rfl rfl rfl) ?_
  all_goals refine awpOps_nil ?_
  refine awp_seq (awp_cond rfl (fun h => ?_) (fun h => ?_))
  · have hlt : k < l.length := by simpa using h
    have hx : l[k]? = some l[k] := List.getElem?_eq_getElem hlt
    have hs := ixf_drop (p := p) hx
    refine awp_skip ?_
    refine awp_seq (awp_block ?_)
    all_goals refine awp_seq (awp_region (id := 3) ?_)
    all_goals refine awpOps_cons (op_mv rfl (Conv.of rfl) rfl) ?_
    all_goals refine awpOps_cons (op_as rfl (Conv.of rfl) rfl) ?_
    all_goals refine awpOps_nil ?_
    all_goals refine awp_seq (awp_region (id := 4) ?_)
    all_goals refine awpOps_cons (op_mv rfl (Conv.of (Hand.fn hd).1) rfl) ?_
    all_goals refine awpOps_cons (op_mv rfl (Conv.of rfl) rfl) ?_
    all_goals refine awpOps_cons (op_mv rfl (Conv.of rfl) rfl) ?_
    all_goals refine awpOps_cons (op_ix sl27_Vote rfl rfl rfl (by omega) hx) ?_
    all_goals refine awpOps_cons (op_ldr ty48 rfl rfl) ?_
    all_goals refine awpOps_callH rfl hB (.cons rfl (Conv.of rfl) (.nil _)) rfl (hf _ (List.getElem_mem hlt)) (Hand.with hd (Hand.l1 (Hand.of rfl rfl) Hand.l0)) hH rfl rfl ?_
    all_goals refine awpOps_nil ?_
    refine awp_cond rfl (fun h => ?_) (fun h => ?_)
    · all_goals refine awp_seq (awp_region (id := 5) ?_)
      all_goals refine awpOps_cons (op_mv rfl (Conv.of rfl) rfl) ?_
      all_goals refine awpOps_cons (op_as rfl (Conv.of rfl) rfl) ?_
      all_goals refine awpOps_nil ?_
      refine awp_ret ?_
      repeat first | refine rt_seq ?_ | refine rt_block ?_
      refine finH (r := .v (k : Int)) (.v rfl (Conv.of rfl)) ?_ rfl
      show AV.v (k : Int) = _
      rw [hall, hs, h]; rfl
    · refine awp_skip ?_
      all_goals refine awp_region (id := 6) ?_
      all_goals refine awpOps_cons (op_add rfl rfl rfl (by omega)) ?_
      all_goals refine awpOps_cons (op_mv rfl (Conv.of rfl) rfl) ?_
      all_goals refine awpOps_nil ?_
      repeat first | refine nx_seq ?_ | refine nx_block ?_
      exact ⟨n - 1, _, by omega, ⟨k + 1, by omega, by rw [hall, hs, h]; rfl, rfl⟩, Le.mkH rfl (tlh rfl (rfl) (tlh rfl (rfl) (tlh rfl (rfl) (tlh rfl (rfl) tln)))) rfl⟩
  · refine awp_exit ?_
    repeat refine ex_seq ?_
    refine ex_block ?_
    have hk : l.length ≤ k := by simpa using h
    all_goals refine awp_seq (awp_region (id := 7) ?_)
    all_goals refine awpOps_cons (op_as rfl (Conv.of rfl) rfl) ?_
    all_goals refine awpOps_nil ?_
    refine awp_ret ?_
    repeat first | refine rt_seq ?_ | refine rt_block ?_
    refine finH (r := .v (-1 : Int)) (.v rfl (Conv.of rfl)) ?_ rfl
    show AV.v (-1 : Int) = _
    rw [hall, drop_end hk]; rfl
theorem containsV_ct (l : List (Vote)) (fn : FuncId) (fa fc : List FV) (hO : Nat → Wt.Obj) (p : Vote → Bool) (hB : fnB Tryz.prog fn = true)
    (hf : ∀ x ∈ l, Ct Tryz.prog fn (avs fa ++ [.v x] ++ avs fc) hO (fun r1 h1 => r1 = .v (p x) ∧ h1 = hO)) (hd : ∀ z ∈ avs fa ++ avs fc, Hand hO z) (hH : ∀ o, obOk (pH hO) (hO o)) :
    Ct Tryz.prog 67 [.v l, .fn fn fa fc] hO (fun r1 h1 => r1 = .v (l.any p) ∧ h1 = hO) := by
  refine Ct.intro Tryz.func67 rfl rfl ?_
  all_goals refine awp_seq (awp_region (id := 0) ?_)
  all_goals refine awpOps_cons (op_as rfl (Conv.of rfl) rfl) ?_
  all_goals refine awpOps_nil ?_
  all_goals refine awp_seq (awp_region (id := 1) ?_)
  all_goals refine awpOps_cons (op_mv rfl (Conv.of rfl) rfl) ?_
  all_goals refine awpOps_cons (op_mv rfl (Conv.of (Hand.fn hd).1) rfl) ?_
  all_goals refine awpOps_callH rfl (fb124) (.cons rfl (Conv.of rfl) (.cons rfl (Conv.of (Hand.fn hd).1) (.nil _))) rfl (indexV_ct l fn fa fc hO p hB hf hd hH) (Hand.none (Hand.l1 (Hand.of rfl rfl) (Hand.l1 (Hand.fn hd) Hand.l0))) hH rfl rfl ?_
  all_goals refine awpOps_cons (op_geq rfl rfl rfl) ?_
  all_goals refine awpOps_cons (op_as rfl (Conv.of rfl) rfl) ?_
  all_goals refine awpOps_nil ?_
  refine awp_ret ?_
  repeat first | refine rt_seq ?_ | refine rt_block ?_
  refine finH (r := .v (decide (0 ≤ ixf p l 0))) (.v rfl (Conv.of rfl)) ?_ rfl
  show AV.v _ = _
  rw [ixf_any p l 0 (Int.le_refl _)]
theorem indexC_ct (l : List (CList Itm)) (fn : FuncId) (fa fc : List FV) (hO : Nat → Wt.Obj) (p : CList Itm → Bool) (hB : fnB Tryz.prog fn = true)
    (hf : ∀ x ∈ l, Ct Tryz.prog fn (avs fa ++ [.v x] ++ avs fc) hO (fun r1 h1 => r1 = .v (p x) ∧ h1 = hO)) (hd : ∀ z ∈ avs fa ++ avs fc, Hand hO z) (hH : ∀ o, obOk (pH hO) (hO o)) :
    Ct Tryz.prog 175 [.v l, .fn fn fa fc] hO (fun r1 h1 => r1 = .v (ixf p l 0) ∧ h1 = hO) := by
  refine Ct.intro Tryz.func175 rfl rfl ?_
  refine awp_bigL 0 rfl (fun hb => ?_)
  all_goals refine awp_seq (awp_region (id := 0) ?_)
  all_goals refine awpOps_cons (op_as rfl (Conv.of rfl) rfl) ?_
  all_goals refine awpOps_nil ?_
  all_goals refine awp_seq (awp_seq (awp_region (id := 1) ?_))
  all_goals refine awpOps_cons (op_mv rfl (Conv.of rfl) rfl) ?_
  all_goals refine awpOps_cons (op_len sl33_CListItm rfl rfl) ?_
  all_goals refine awpOps_cons (op_mv rfl (Conv.of rfl) rfl) ?_
  all_goals refine awpOps_nil ?_
  refine awp_block ?_
  refine awp_loop' (fun n s => ∃ (k : Nat), ∃ (hn : n + k = l.length), ∃ (hall : ixf p l 0 = ixf p (l.drop k) k), s = mkStH 19 [(0, .v l), (1, .fn fn fa fc), (7, .v (l.length : Int)), (8, .v (k : Int))] hO) (l.length) ⟨0, by omega, rfl, rfl⟩ (Le.mkH rfl (tlh rfl (rfl) (tlh rfl (rfl) (tlh rfl (rfl) (tlh rfl (rfl) tln)))) rfl) ?_
  rintro n s ⟨k, hn, hall, rfl⟩
  all_goals refine awp_seq (awp_region (id := 2) ?_)
  all_goals refine awpOps_cons (op_lss rfl rfl rfl) ?_
  all_goals refine awpOps_nil ?_
  refine awp_seq (awp_cond rfl (fun h => ?_) (fun h => ?_))
  · have hlt : k < l.length := by simpa using h
    have hx : l[k]? = some l[k] := List.getElem?_eq_getElem hlt
    have hs := ixf_drop (p := p) hx
    refine awp_skip ?_
    refine awp_seq (awp_block ?_)
    all_goals refine awp_seq (awp_region (id := 3) ?_)
    all_goals refine awpOps_cons (op_mv rfl (Conv.of rfl) rfl) ?_
    all_goals refine awpOps_cons (op_as rfl (Conv.of rfl) rfl) ?_
    all_goals refine awpOps_nil ?_
    all_goals refine awp_seq (awp_region (id := 4) ?_)
    all_goals refine awpOps_cons (op_mv rfl (Conv.of (Hand.fn hd).1) rfl) ?_
    all_goals refine awpOps_cons (op_mv rfl (Conv.of rfl) rfl) ?_
    all_goals refine awpOps_cons (op_mv rfl (Conv.of rfl) rfl) ?_
    all_goals refine awpOps_cons (op_ix sl33_CListItm rfl rfl rfl (by omega) hx) ?_
    all_goals refine awpOps_cons (op_ldr ty34_CListItm rfl rfl) ?_
    all_goals refine awpOps_callH rfl hB (.cons rfl (Conv.of rfl) (.nil _)) rfl (hf _ (List.getElem_mem hlt)) (Hand.with hd (Hand.l1 (Hand.of rfl rfl) Hand.l0)) hH rfl rfl ?_
    all_goals refine awpOps_nil ?_
    refine awp_cond rfl (fun h => ?_) (fun h => ?_)
    · all_goals refine awp_seq (awp_region (id := 5) ?_)
      all_goals refine awpOps_cons (op_mv rfl (Conv.of rfl) rfl) ?_
      all_goals refine awpOps_cons (op_as rfl (Conv.of rfl) rfl) ?_
      all_goals refine awpOps_nil ?_
      refine awp_ret ?_
      repeat first | refine rt_seq ?_ | refine rt_block ?_
      refine finH (r := .v (k : Int)) (.v rfl (Conv.of rfl)) ?_ rfl
      show AV.v (k : Int) = _
      rw [hall, hs, h]; rfl
    · refine awp_skip ?_
      all_goals refine awp_region (id := 6) ?_
      all_goals refine awpOps_cons (op_add rfl rfl rfl (by omega)) ?_
      all_goals refine awpOps_cons (op_mv rfl (Conv.of rfl) rfl) ?_
      all_goals refine awpOps_nil ?_
      repeat first | refine nx_seq ?_ | refine nx_block ?_
      exact ⟨n - 1, _, by omega, ⟨k + 1, by omega, by rw [hall, hs, h]; rfl, rfl⟩, Le.mkH rfl (tlh rfl (rfl) (tlh rfl (rfl) (tlh rfl (rfl) (tlh rfl (rfl) tln)))) rfl⟩
  · refine awp_exit ?_
    repeat refine ex_seq ?_
    refine ex_block ?_
    have hk : l.length ≤ k := by simpa using h
    all_goals refine awp_seq (awp_region (id := 7) ?_)
    all_goals refine awpOps_cons (op_as rfl (Conv.of rfl) rfl) ?_
    all_goals refine awpOps_nil ?_
    refine awp_ret ?_
    repeat first | refine rt_seq ?_ | refine rt_block ?_
    refine finH (r := .v (-1 : Int)) (.v rfl (Conv.of rfl)) ?_ rfl
    show AV.v (-1 : Int) = _
    rw [hall, drop_end hk]; rfl
theorem containsC_ct (l : List (CList Itm)) (fn : FuncId) (fa fc : List FV) (hO : Nat → Wt.Obj) (p : CList Itm → Bool) (hB : fnB Tryz.prog fn = true)
    (hf : ∀ x ∈ l, Ct Tryz.prog fn (avs fa ++ [.v x] ++ avs fc) hO (fun r1 h1 => r1 = .v (p x) ∧ h1 = hO)) (hd : ∀ z ∈ avs fa ++ avs fc, Hand hO z) (hH : ∀ o, obOk (pH hO) (hO o)) :
    Ct Tryz.prog 160 [.v l, .fn fn fa fc] hO (fun r1 h1 => r1 = .v (l.any p) ∧ h1 = hO) := by
  refine Ct.intro Tryz.func160 rfl rfl ?_
  all_goals refine awp_seq (awp_region (id := 0) ?_)
  all_goals refine awpOps_cons (op_as rfl (Conv.of rfl) rfl) ?_
  all_goals refine awpOps_nil ?_
  all_goals refine awp_seq (awp_region (id := 1) ?_)
  all_goals refine awpOps_cons (op_mv rfl (Conv.of rfl) rfl) ?_
  all_goals refine awpOps_cons (op_mv rfl (Conv.of (Hand.fn hd).1) rfl) ?_
  all_goals refine awpOps_callH rfl (fb175) (.cons rfl (Conv.of rfl) (.cons rfl (Conv.of (Hand.fn hd).1) (.nil _))) rfl (indexC_ct l fn fa fc hO p hB hf hd hH) (Hand.none (Hand.l1 (Hand.of rfl rfl) (Hand.l1 (Hand.fn hd) Hand.l0))) hH rfl rfl ?_
  all_goals refine awpOps_cons (op_geq rfl rfl rfl) ?_
  all_goals refine awpOps_cons (op_as rfl (Conv.of rfl) rfl) ?_
  all_goals refine awpOps_nil ?_
  refine awp_ret ?_
  repeat first | refine rt_seq ?_ | refine rt_block ?_
  refine finH (r := .v (decide (0 ≤ ixf p l 0))) (.v rfl (Conv.of rfl)) ?_ rfl
  show AV.v _ = _
  rw [ixf_any p l 0 (Int.le_refl _)]
theorem same_ct (v u : Vote) : CtP Tryz.prog 159 [.v v, .v u] (.v (decide (v = u))) := by
  refine Ct.intro Tryz.func159 rfl rfl ?_
  all_goals refine awp_seq (awp_region (id := 0) ?_)
  all_goals refine awpOps_cons (op_box (o := 0) ty48 rfl (Conv.of rfl) rfl rfl) ?_
  all_goals refine awpOps_cons (op_box (o := 1) ty48 rfl (Conv.of rfl) rfl rfl) ?_
  all_goals refine awpOps_cons (op_as rfl (Conv.of rfl) rfl) ?_
  all_goals refine awpOps_nil ?_
  all_goals refine awp_seq (awp_region (id := 1) ?_)
  all_goals refine awpOps_cons (op_fab f48_0 rfl rfl) ?_
  all_goals refine awpOps_cons (op_ld ty3 rfl rfl rfl) ?_
  all_goals refine awpOps_cons (op_fab f48_0 rfl rfl) ?_
  all_goals refine awpOps_cons (op_ld ty3 rfl rfl rfl) ?_
  all_goals refine awpOps_cons (op_eql rfl rfl rfl) ?_
  all_goals refine awpOps_cons (op_mv rfl (Conv.of rfl) rfl) ?_
  all_goals refine g_split (t := 10) rfl (fun h => ?_) (fun h => ?_)
  all_goals first | refine awpOps_cons (g_off rfl rfl rfl rfl rfl) ?_ | refine awpOps_cons (g_on rfl rfl rfl (op_fab f48_1 rfl rfl)) ?_
  all_goals first | refine awpOps_cons (g_off rfl rfl rfl rfl rfl) ?_ | refine awpOps_cons (g_on rfl rfl rfl (op_ld ty34 rfl rfl rfl)) ?_
  all_goals first | refine awpOps_cons (g_off rfl rfl rfl rfl rfl) ?_ | refine awpOps_cons (g_on rfl rfl rfl (op_fab f48_1 rfl rfl)) ?_
  all_goals first | refine awpOps_cons (g_off rfl rfl rfl rfl rfl) ?_ | refine awpOps_cons (g_on rfl rfl rfl (op_ld ty34 rfl rfl rfl)) ?_
  all_goals first | refine awpOps_cons (g_off rfl rfl rfl rfl rfl) ?_ | refine awpOps_cons (g_on rfl rfl rfl (op_call fb162 (.cons rfl (Conv.of rfl) (.cons rfl (Conv.of rfl) (.nil _))) (equal_ct _ _) (argOk rfl rfl (argOk rfl rfl argOk0)) rfl rfl)) ?_
  all_goals refine awpOps_cons (op_pick rfl rfl rfl rfl) ?_
  all_goals refine awpOps_cons (op_as rfl (Conv.of rfl) rfl) ?_
  all_goals refine awpOps_nil ?_
  all_goals refine awp_ret ?_
  all_goals refine finP (.v rfl (Conv.of rfl)) rfl ?_
  all_goals (obtain ⟨v1, v2⟩ := v; obtain ⟨u1, u2⟩ := u; simp_all [FV.av])
theorem has_ct (l : List Vote) (v : Vote) : CtP Tryz.prog 120 [.v l, .v v] (.v (decide (v ∈ l))) := by
  refine Ct.intro Tryz.func120 rfl rfl ?_
  all_goals refine awp_seq (awp_region (id := 0) ?_)
  all_goals refine awpOps_cons (op_box (o := 0) ty48 rfl (Conv.of rfl) rfl rfl) ?_
  all_goals refine awpOps_cons (op_as rfl (Conv.of rfl) rfl) ?_
  all_goals refine awpOps_nil ?_
  have hc := containsW_ct l 159 [.v v] [] noObj (fun x => decide (v = x)) fb159 (fun x hx => same_ct v x) (by intro z hz; simp [avs] at hz; subst hz; exact Hand.of rfl rfl) noH
  all_goals refine awp_seq (awp_region (id := 1) ?_)
  all_goals refine awpOps_cons (op_mv rfl (Conv.of rfl) rfl) ?_
  all_goals refine awpOps_cons (op_ld ty48 rfl rfl rfl) ?_
  all_goals refine awpOps_cons (op_mf (f := 159) (.cons (r := .v v) rfl (Conv.of rfl) .nil) .nil rfl) ?_
  all_goals refine awpOps_cons (op_call fb158 (.cons rfl (Conv.of rfl) (.cons rfl (Conv.of rfl) (.nil _))) (hc) (argOk rfl rfl (argOk rfl rfl argOk0)) rfl rfl) ?_
  all_goals refine awpOps_cons (op_as rfl (Conv.of rfl) rfl) ?_
  all_goals refine awpOps_nil ?_
  refine awp_ret ?_
  repeat first | refine rt_seq ?_ | refine rt_block ?_
  refine finP (.v rfl (Conv.of rfl)) rfl ?_
  show AV.v _ = _
  congr 1
  rw [Bool.eq_iff_iff]; simp
end Go.Proofs.YtmdhfalfppkpeaaGreat

/- Votes. -/
set_option linter.unusedVariables false
namespace Go.Proofs.YtmdhfalfppkpeaaGreat
open Go Go.Wt
theorem nodeIdOk_ct (n : Int) : CtP Tryz.prog 110 [.v n] (.v (within n 1 4)) := by
  refine Ct.intro Tryz.func110 rfl rfl ?_
  all_goals refine awp_seq (awp_region (id := 0) ?_)
  all_goals refine awpOps_cons (op_as rfl (Conv.of rfl) rfl) ?_
  all_goals refine awpOps_nil ?_
  all_goals refine awp_seq (awp_region (id := 1) ?_)
  all_goals refine awpOps_cons (op_mv rfl (Conv.of rfl) rfl) ?_
  all_goals refine awpOps_cons (op_call fb83 (.cons rfl (Conv.of rfl) (.cons rfl (Conv.of rfl) (.cons rfl (Conv.of rfl) (.nil _)))) (within_ct _ _ _) (argOk rfl rfl (argOk rfl rfl (argOk rfl rfl argOk0))) rfl rfl) ?_
  all_goals refine awpOps_cons (op_as rfl (Conv.of rfl) rfl) ?_
  all_goals refine awpOps_nil ?_
  refine awp_ret ?_
  exact finP (.v rfl (Conv.of rfl)) rfl rfl
theorem voteOk_ct (v : Vote) : CtP Tryz.prog 51 [.v v] (.v (voteOk v)) := by
  refine Ct.intro Tryz.func51 rfl rfl ?_
  all_goals refine awp_seq (awp_region (id := 0) ?_)
  all_goals refine awpOps_cons (op_box (o := 0) ty48 rfl (Conv.of rfl) rfl rfl) ?_
  all_goals refine awpOps_cons (op_as rfl (Conv.of rfl) rfl) ?_
  all_goals refine awpOps_nil ?_
  all_goals refine awp_seq (awp_region (id := 1) ?_)
  all_goals refine awpOps_cons (op_fab f48_0 rfl rfl) ?_
  all_goals refine awpOps_cons (op_ld ty3 rfl rfl rfl) ?_
  all_goals refine awpOps_cons (op_call fb110 (.cons rfl (Conv.of rfl) (.nil _)) (nodeIdOk_ct _) (argOk rfl rfl argOk0) rfl rfl) ?_
  all_goals refine awpOps_cons (op_mv rfl (Conv.of rfl) rfl) ?_
  all_goals refine g_split (t := 6) rfl (fun h => ?_) (fun h => ?_)
  all_goals first | refine awpOps_cons (g_off rfl rfl rfl rfl rfl) ?_ | refine awpOps_cons (g_on rfl rfl rfl (op_fab f48_1 rfl rfl)) ?_
  all_goals first | refine awpOps_cons (g_off rfl rfl rfl rfl rfl) ?_ | refine awpOps_cons (g_on rfl rfl rfl (op_ld ty34 rfl rfl rfl)) ?_
  all_goals first | refine awpOps_cons (g_off rfl rfl rfl rfl rfl) ?_ | refine awpOps_cons (g_on rfl rfl rfl (op_len sl34 rfl rfl)) ?_
  all_goals first | refine awpOps_cons (g_off rfl rfl rfl rfl rfl) ?_ | refine awpOps_cons (g_on rfl rfl rfl (op_gtr rfl rfl rfl)) ?_
  all_goals refine awpOps_cons (op_pick rfl rfl rfl rfl) ?_
  all_goals refine awpOps_cons (op_mv rfl (Conv.of rfl) rfl) ?_
  all_goals first | refine g_lit (t := 12) (b := false) rfl ?_ | refine g_split (t := 12) rfl (fun h => ?_) (fun h => ?_)
  all_goals first | refine awpOps_cons (g_off rfl rfl rfl rfl rfl) ?_ | refine awpOps_cons (g_on rfl rfl rfl (op_fab f48_1 rfl rfl)) ?_
  all_goals first | refine awpOps_cons (g_off rfl rfl rfl rfl rfl) ?_ | refine awpOps_cons (g_on rfl rfl rfl (op_ld ty34 rfl rfl rfl)) ?_
  all_goals first | refine awpOps_cons (g_off rfl rfl rfl rfl rfl) ?_ | refine awpOps_cons (g_on rfl rfl rfl (op_call fb92 (.cons rfl (Conv.of rfl) (.nil _)) (chainOk_ct _) (argOk rfl rfl argOk0) rfl rfl)) ?_
  all_goals refine awpOps_cons (op_pick rfl rfl rfl rfl) ?_
  all_goals refine awpOps_cons (op_as rfl (Conv.of rfl) rfl) ?_
  all_goals refine awpOps_nil ?_
  all_goals refine awp_ret ?_
  all_goals refine finP (.v rfl (Conv.of rfl)) rfl ?_
  all_goals (simp_all [FV.av, voteOk])
theorem last_ct (v : Vote) (hv : 0 < v.chain.length) : CtP Tryz.prog 134 [.v v] (.v (lastEp v.chain)) := by
  have hx : v.chain[v.chain.length - 1]? = some (v.chain[v.chain.length - 1]'(by omega)) := List.getElem?_eq_getElem (by omega)
  have hx' : v.chain[((v.chain.length : Int) - 1).toNat]? = some (v.chain[v.chain.length - 1]'(by omega)) := by
    rw [show ((v.chain.length : Int) - 1).toNat = v.chain.length - 1 by omega]; exact hx
  refine Ct.intro Tryz.func134 rfl rfl ?_
  all_goals refine awp_seq (awp_region (id := 0) ?_)
  all_goals refine awpOps_cons (op_box (o := 0) ty48 rfl (Conv.of rfl) rfl rfl) ?_
  all_goals refine awpOps_cons (op_as rfl (Conv.of rfl) rfl) ?_
  all_goals refine awpOps_nil ?_
  all_goals refine awp_seq (awp_region (id := 1) ?_)
  all_goals refine awpOps_cons (op_fab f48_1 rfl rfl) ?_
  all_goals refine awpOps_cons (op_ld ty34 rfl rfl rfl) ?_
  all_goals refine awpOps_cons (op_fab f48_1 rfl rfl) ?_
  all_goals refine awpOps_cons (op_ld ty34 rfl rfl rfl) ?_
  all_goals refine awpOps_cons (op_len sl34 rfl rfl) ?_
  refine awpOps_bigL 4 rfl (fun hb => ?_)
  all_goals refine awpOps_cons (op_sub rfl rfl rfl (by omega)) ?_
  all_goals refine awpOps_cons (op_ix sl34 rfl rfl rfl (by omega) hx') ?_
  all_goals refine awpOps_cons (op_far f60_0 rfl rfl) ?_
  all_goals refine awpOps_cons (op_ldr ty3 rfl rfl) ?_
  all_goals refine awpOps_cons (op_as rfl (Conv.of rfl) rfl) ?_
  all_goals refine awpOps_nil ?_
  refine awp_ret ?_
  repeat first | refine rt_seq ?_ | refine rt_block ?_
  refine finP (.v rfl (Conv.of rfl)) rfl ?_
  show AV.v _ = _
  rw [lastEp_get hx]
theorem leader_ct (n : Int) : CtP Tryz.prog 127 [.v n] (.v (leader n)) := by
  refine Ct.intro Tryz.func127 rfl rfl ?_
  all_goals refine awp_seq (awp_region (id := 0) ?_)
  all_goals refine awpOps_cons (op_as rfl (Conv.of rfl) rfl) ?_
  all_goals refine awpOps_nil ?_
  all_goals refine awp_seq (awp_seq (awp_region (id := 1) ?_))
  all_goals refine awpOps_cons (op_mv rfl (Conv.of rfl) rfl) ?_
  all_goals refine awpOps_cons (op_call fb145 (.cons rfl (Conv.of rfl) (.nil _)) (epochOk_ct _) (argOk rfl rfl argOk0) rfl rfl) ?_
  all_goals refine awpOps_cons (op_not rfl rfl) ?_
  all_goals refine awpOps_nil ?_
  refine awp_cond rfl (fun h => ?_) (fun h => ?_)
  · all_goals refine awp_seq (awp_region (id := 2) ?_)
    all_goals refine awpOps_cons (op_as rfl (Conv.of rfl) rfl) ?_
    all_goals refine awpOps_nil ?_
    refine awp_ret ?_
    repeat first | refine rt_seq ?_ | refine rt_block ?_
    refine finP (.v rfl (Conv.of rfl)) rfl ?_
    show AV.v (0 : Int) = _
    have : within n 1 30 = false := by simpa using h
    simp [leader, this]
  · refine awp_skip ?_
    have hw : within n 1 30 = true := by simpa using h
    have hw' : 1 ≤ n ∧ n ≤ 30 := by simpa [within] using hw
    have ht1 := Int.tmod_nonneg 4 (show 0 ≤ n - 1 by omega)
    have ht2 := Int.tmod_lt_of_pos (n - 1) (show (0 : Int) < 4 by omega)
    all_goals refine awp_seq (awp_region (id := 3) ?_)
    all_goals refine awpOps_cons (op_mv rfl (Conv.of rfl) rfl) ?_
    all_goals refine awpOps_cons (op_sub rfl rfl rfl (by omega)) ?_
    all_goals refine awpOps_cons (op_rem rfl rfl rfl (by decide)) ?_
    all_goals refine awpOps_cons (op_add rfl rfl rfl (by omega)) ?_
    all_goals refine awpOps_cons (op_as rfl (Conv.of rfl) rfl) ?_
    all_goals refine awpOps_nil ?_
    refine awp_ret ?_
    repeat first | refine rt_seq ?_ | refine rt_block ?_
    refine finP (.v rfl (Conv.of rfl)) rfl ?_
    show AV.v _ = _
    simp [leader, hw]
set_option maxHeartbeats 1000000 in
theorem votesOk_ct (l : List Vote) : CtP Tryz.prog 59 [.v l] (.v (votesOk l)) := by
  refine Ct.intro Tryz.func59 rfl rfl ?_
  refine awp_bigL 0 rfl (fun hB => ?_)
  all_goals refine awp_seq (awp_region (id := 0) ?_)
  all_goals refine awpOps_cons (op_as rfl (Conv.of rfl) rfl) ?_
  all_goals refine awpOps_nil ?_
  all_goals refine awp_seq (awp_seq (awp_region (id := 1) ?_))
  all_goals refine awpOps_cons (op_mv rfl (Conv.of rfl) rfl) ?_
  all_goals refine awpOps_cons (op_len sl27 rfl rfl) ?_
  all_goals refine awpOps_cons (op_mv rfl (Conv.of rfl) rfl) ?_
  all_goals refine awpOps_nil ?_
  refine awp_block ?_
  refine awp_loop' (fun n s => ∃ (k : Nat), ∃ (hn : n + k = l.length), ∃ (hall : votesOk l = votesOkFrom (l.take k) (l.drop k)), s = mkSt 23 [(0, .v l), (5, .v l), (6, .v (l.length : Int)), (7, .v (k : Int))] []) (l.length) ⟨0, by omega, rfl, rfl⟩ (Le.mk rfl (tle rfl (rfl) rfl (tle rfl (rfl) rfl (tle rfl (rfl) rfl (tle rfl (rfl) rfl tln)))) oln noS) ?_
  rintro n s ⟨k, hn, hall, rfl⟩
  all_goals refine awp_seq (awp_region (id := 2) ?_)
  all_goals refine awpOps_cons (op_lss rfl rfl rfl) ?_
  all_goals refine awpOps_nil ?_
  refine awp_seq (awp_cond rfl (fun h => ?_) (fun h => ?_))
  · have hlt : k < l.length := by simpa using h
    have hx : l[k]? = some l[k] := List.getElem?_eq_getElem hlt
    have hs := votesOk_drop hx
    refine awp_skip ?_
    refine awp_seq (awp_block ?_)
    all_goals refine awp_seq (awp_region (id := 3) ?_)
    all_goals refine awpOps_cons (op_mv rfl (Conv.of rfl) rfl) ?_
    all_goals refine awpOps_cons (op_ix sl27 rfl rfl rfl (by omega) hx) ?_
    all_goals refine awpOps_cons (op_ldr ty48 rfl rfl) ?_
    all_goals refine awpOps_cons (op_alloc (o := 0) z48 rfl rfl) ?_
    all_goals refine awpOps_cons (op_as rfl (Conv.of rfl) rfl) ?_
    all_goals refine awpOps_cons (op_st ty48 rfl rfl (Conv.of rfl) rfl) ?_
    all_goals refine awpOps_nil ?_
    refine awp_seq_to (s' := mkSt 23 [(0, .v l), (5, .v l), (6, .v (l.length : Int)), (7, .v (k : Int)), (21, .v (!(voteOk l[k] && !decide (l[k] ∈ l.take k))))] []) ?_ ?_
    · all_goals refine dr_start (id := 4) ?_
      all_goals refine dr_cons (op_ld ty48 rfl rfl rfl) ?_
      all_goals refine dr_cons (op_call fb51 (.cons rfl (Conv.of rfl) (.nil _)) (voteOk_ct _) (argOk rfl rfl argOk0) rfl rfl) ?_
      all_goals refine dr_cons (op_not rfl rfl) ?_
      all_goals refine dr_cons (op_mv rfl (Conv.of rfl) rfl) ?_
      all_goals refine dr_split (t := 15) rfl (fun h => ?_) (fun h => ?_)
      all_goals first | refine dr_cons (g_off rfl rfl rfl rfl rfl) ?_ | refine dr_cons (g_on rfl rfl rfl (op_mv rfl (Conv.of rfl) rfl)) ?_
      all_goals first | refine dr_cons (g_off rfl rfl rfl rfl rfl) ?_ | refine dr_cons (g_on rfl rfl rfl (op_mv rfl (Conv.of rfl) rfl)) ?_
      all_goals first | refine dr_cons (g_off rfl rfl rfl rfl rfl) ?_ | refine dr_cons (g_on rfl rfl rfl (op_slh sl27 rfl rfl rfl ⟨by omega, by omega⟩)) ?_
      all_goals first | refine dr_cons (g_off rfl rfl rfl rfl rfl) ?_ | refine dr_cons (g_on rfl rfl rfl (op_ld ty48 rfl rfl rfl)) ?_
      all_goals first | refine dr_cons (g_off rfl rfl rfl rfl rfl) ?_ | refine dr_cons (g_on rfl rfl rfl (op_call fb120 (.cons rfl (Conv.of rfl) (.cons rfl (Conv.of rfl) (.nil _))) (has_ct _ _) (argOk rfl rfl (argOk rfl rfl argOk0)) rfl rfl)) ?_
      all_goals refine dr_cons (op_pick rfl rfl rfl rfl) ?_
      all_goals refine dr_nil mixed rfl ?_
      all_goals exact Le.mk rfl (tle rfl (rfl) rfl (tle rfl (rfl) rfl (tle rfl (rfl) rfl (tle rfl (rfl) rfl (tle rfl (by (clear hall hs; simp_all)) rfl tln))))) oln noS
    refine awp_cond rfl (fun h => ?_) (fun h => ?_)
    · all_goals refine awp_seq (awp_region (id := 5) ?_)
      all_goals refine awpOps_cons (op_as rfl (Conv.of rfl) rfl) ?_
      all_goals refine awpOps_nil ?_
      refine awp_ret ?_
      repeat first | refine rt_seq ?_ | refine rt_block ?_
      refine finP (.v rfl (Conv.of rfl)) rfl ?_
      show AV.v false = _
      rw [hall, hs, not_t h, Bool.false_and]
    · refine awp_skip ?_
      all_goals refine awp_region (id := 6) ?_
      all_goals refine awpOps_cons (op_add rfl rfl rfl (by omega)) ?_
      all_goals refine awpOps_cons (op_mv rfl (Conv.of rfl) rfl) ?_
      all_goals refine awpOps_nil ?_
      repeat first | refine nx_seq ?_ | refine nx_block ?_
      exact ⟨n - 1, _, by omega, ⟨k + 1, by omega, by rw [hall, hs, not_f h, Bool.true_and], rfl⟩, Le.mk rfl (tle rfl (rfl) rfl (tle rfl (rfl) rfl (tle rfl (rfl) rfl (tle rfl (rfl) rfl tln)))) oln noS⟩
  · refine awp_exit ?_
    repeat refine ex_seq ?_
    refine ex_block ?_
    have hk : l.length ≤ k := by simpa using h
    all_goals refine awp_seq (awp_region (id := 7) ?_)
    all_goals refine awpOps_cons (op_as rfl (Conv.of rfl) rfl) ?_
    all_goals refine awpOps_nil ?_
    refine awp_ret ?_
    repeat first | refine rt_seq ?_ | refine rt_block ?_
    refine finP (.v rfl (Conv.of rfl)) rfl ?_
    show AV.v true = _
    rw [hall, drop_end hk]; rfl
theorem copied_ct (c : List Itm) (hc : c.length ≤ 1000000) : CtP Tryz.prog 62 [.v c] (.v (CList.mk c)) := by
  refine Ct.intro Tryz.func62 rfl rfl ?_
  all_goals refine awp_seq (awp_region (id := 0) ?_)
  all_goals refine awpOps_cons (op_as rfl (Conv.of rfl) rfl) ?_
  all_goals refine awpOps_nil ?_
  all_goals refine awp_seq (awp_region (id := 1) ?_)
  all_goals refine awpOps_cons (op_mv rfl (Conv.of rfl) rfl) ?_
  all_goals refine awpOps_cons (op_call fb123 (.cons rfl (Conv.of rfl) (.nil _)) (cloneI_ct _ hc) (argOk rfl rfl argOk0) rfl rfl) ?_
  all_goals refine awpOps_cons (op_call fb122 (.cons rfl ((Conv.ol)) (.nil _)) (clipI_ct ⟨c, true⟩) (argOk rfl rfl argOk0) rfl rfl) ?_
  all_goals refine awpOps_cons (op_as rfl (Conv.of rfl) rfl) ?_
  all_goals refine awpOps_nil ?_
  refine awp_ret ?_
  repeat first | refine rt_seq ?_ | refine rt_block ?_
  exact finP (.v rfl (Conv.of rfl)) rfl rfl
end Go.Proofs.YtmdhfalfppkpeaaGreat

/- Votes copied, counted; sure chains. -/
set_option linter.unusedVariables false
namespace Go.Proofs.YtmdhfalfppkpeaaGreat
open Go Go.Wt
theorem voteCopied_ct (v : Vote) (hv : v.chain.length ≤ 1000000) : CtP Tryz.prog 157 [.v v] (.v v) := by
  refine Ct.intro Tryz.func157 rfl rfl ?_
  all_goals refine awp_seq (awp_region (id := 0) ?_)
  all_goals refine awpOps_cons (op_box (o := 0) ty48 rfl (Conv.of rfl) rfl rfl) ?_
  all_goals refine awpOps_cons (op_alloc (o := 1) z48 rfl rfl) ?_
  all_goals refine awpOps_nil ?_
  all_goals refine awp_seq (dr_start (id := 1) ?_)
  all_goals refine dr_cons (op_fab f48_0 rfl rfl) ?_
  all_goals refine dr_cons (op_ld ty3 rfl rfl rfl) ?_
  all_goals refine dr_cons (op_fab f48_1 rfl rfl) ?_
  all_goals refine dr_cons (op_ld ty34 rfl rfl rfl) ?_
  all_goals refine dr_cons (op_call fb62 (.cons rfl (Conv.of rfl) (.nil _)) (copied_ct _ hv) (argOk rfl rfl argOk0) rfl rfl) ?_
  all_goals refine dr_cons (op_build (.cons f48_0 rfl (Conv.of rfl) (.cons f48_1 rfl Conv.cl (.nil _))) z48 rfl pl48 rfl) ?_
  all_goals refine dr_cons (op_st ty48 rfl rfl (Conv.of rfl) rfl) ?_
  all_goals refine dr_nil mixed rfl ?_
  refine awp_ret ?_
  repeat first | refine rt_seq ?_ | refine rt_block ?_
  exact finP (.rc ty48 rfl rfl) rfl rfl
theorem with_ct (l : List Vote) (v : Vote) (hl : l.length ≤ 1000000) (hv : v.chain.length ≤ 1000000) : CtP Tryz.prog 150 [.v l, .v v] (.v (CList.mk (l ++ [v]))) := by
  refine Ct.intro Tryz.func150 rfl rfl ?_
  all_goals refine awp_seq (awp_region (id := 0) ?_)
  all_goals refine awpOps_cons (op_box (o := 0) ty48 rfl (Conv.of rfl) rfl rfl) ?_
  all_goals refine awpOps_cons (op_as rfl (Conv.of rfl) rfl) ?_
  all_goals refine awpOps_nil ?_
  all_goals refine awp_seq (dr_start (id := 1) ?_)
  all_goals refine dr_cons (op_mv rfl (Conv.of rfl) rfl) ?_
  all_goals refine dr_cons (op_call fb173 (.cons rfl (Conv.of rfl) (.nil _)) (cloneV_ct _ hl) (argOk rfl rfl argOk0) rfl rfl) ?_
  all_goals refine dr_cons (op_ld ty48 rfl rfl rfl) ?_
  all_goals refine dr_cons (op_call fb157 (.cons rfl (Conv.of rfl) (.nil _)) (voteCopied_ct _ hv) (argOk rfl rfl argOk0) rfl rfl) ?_
  all_goals refine dr_cons (op_bsl sl27 z48 (.cons rfl (Conv.of rfl) (.nil _)) rfl (by decide) rfl) ?_
  all_goals refine dr_cons (op_app sl27 z48 ul27 rfl rfl rfl (by (simp; omega)) (by (simp; omega)) rfl rfl) ?_
  all_goals refine dr_cons (op_call fb96 (.cons rfl ((Conv.ol)) (.nil _)) (clipV_ct ⟨l ++ [v], true⟩) (argOk rfl rfl argOk0) rfl rfl) ?_
  all_goals refine dr_cons (op_as rfl (Conv.of rfl) rfl) ?_
  all_goals refine dr_nil mixed rfl ?_
  refine awp_ret ?_
  repeat first | refine rt_seq ?_ | refine rt_block ?_
  exact finP (.v rfl (Conv.of rfl)) rfl rfl
theorem votesCopied_ct (l : List Vote) (hl : l.length ≤ 1000000) (hv : ∀ v ∈ l, v.chain.length ≤ 1000000) : CtP Tryz.prog 115 [.v l] (.v (OList.mk l true)) := by
  refine Ct.intro Tryz.func115 rfl rfl ?_
  all_goals refine awp_seq (awp_region (id := 0) ?_)
  all_goals refine awpOps_cons (op_as rfl (Conv.of rfl) rfl) ?_
  all_goals refine awpOps_nil ?_
  all_goals refine awp_seq (awp_region (id := 1) ?_)
  all_goals refine awpOps_cons (op_mv rfl (Conv.of rfl) rfl) ?_
  all_goals refine awpOps_cons (op_len sl93 rfl rfl) ?_
  all_goals refine awpOps_cons (op_mkl sl27 z48 rfl rfl (by omega) (by omega) (by omega) rfl) ?_
  all_goals refine awpOps_cons (op_asl rfl rfl rfl rfl) ?_
  all_goals refine awpOps_nil ?_
  all_goals refine awp_seq (awp_seq (awp_region (id := 2) ?_))
  all_goals refine awpOps_cons (op_mv rfl (Conv.of rfl) rfl) ?_
  all_goals refine awpOps_cons (op_len sl93 rfl rfl) ?_
  all_goals refine awpOps_cons (op_mv rfl (Conv.of rfl) rfl) ?_
  all_goals refine awpOps_nil ?_
  refine awp_block ?_
  refine awp_loop' (fun n s => ∃ (k : Nat), ∃ (hn : n + k = l.length), s = mkSt 22 [(0, .v l), (3, .v (OList.mk (l.take k) true)), (9, .v l), (10, .v (l.length : Int)), (11, .v (k : Int))] []) (l.length) ⟨0, by omega, rfl⟩ (Le.mk rfl (tle rfl (rfl) rfl (tle rfl (by rfl) rfl (tle rfl (rfl) rfl (tle rfl (rfl) rfl (tle rfl (rfl) rfl tln))))) oln noS) ?_
  rintro n s ⟨k, hn, rfl⟩
  all_goals refine awp_seq (awp_region (id := 3) ?_)
  all_goals refine awpOps_cons (op_lss rfl rfl rfl) ?_
  all_goals refine awpOps_nil ?_
  refine awp_seq (awp_cond rfl (fun h => ?_) (fun h => ?_))
  · have hlt : k < l.length := by simpa using h
    have hx : l[k]? = some l[k] := List.getElem?_eq_getElem hlt
    refine awp_skip ?_
    refine awp_seq (awp_block ?_)
    all_goals refine awp_seq (awp_region (id := 4) ?_)
    all_goals refine awpOps_cons (op_ix sl93 rfl rfl rfl (by omega) hx) ?_
    all_goals refine awpOps_cons (op_ldr ty48 rfl rfl) ?_
    all_goals refine awpOps_cons (op_alloc (o := 0) z48 rfl rfl) ?_
    all_goals refine awpOps_cons (op_st ty48 rfl rfl (Conv.of rfl) rfl) ?_
    all_goals refine awpOps_nil ?_
    all_goals refine awp_region (id := 5) ?_
    all_goals refine awpOps_cons (op_mvl rfl rfl rfl rfl) ?_
    all_goals refine awpOps_cons (op_ld ty48 rfl rfl rfl) ?_
    all_goals refine awpOps_cons (op_call fb157 (.cons rfl (Conv.of rfl) (.nil _)) (voteCopied_ct _ (hv _ (List.getElem_mem hlt))) (argOk rfl rfl argOk0) rfl rfl) ?_
    all_goals refine awpOps_cons (op_bsl sl27 z48 (.cons rfl (Conv.of rfl) (.nil _)) rfl (by decide) rfl) ?_
    all_goals refine awpOps_cons (op_app sl27 z48 ul27 rfl rfl rfl (by (simp; omega)) (by (simp; omega)) rfl rfl) ?_
    all_goals refine awpOps_cons (op_asl rfl rfl rfl rfl) ?_
    all_goals refine awpOps_nil ?_
    all_goals refine awp_region (id := 6) ?_
    all_goals refine awpOps_cons (op_add rfl rfl rfl (by omega)) ?_
    all_goals refine awpOps_cons (op_mv rfl (Conv.of rfl) rfl) ?_
    all_goals refine awpOps_nil ?_
    repeat first | refine nx_seq ?_ | refine nx_block ?_
    exact ⟨n - 1, _, by omega, ⟨k + 1, by omega, rfl⟩, Le.mk rfl (tle rfl (rfl) rfl (tle rfl (by (rw [take_at hx])) rfl (tle rfl (rfl) rfl (tle rfl (rfl) rfl (tle rfl (rfl) rfl tln))))) oln noS⟩
  · refine awp_exit ?_
    repeat refine ex_seq ?_
    refine ex_block ?_
    have hk : l.length ≤ k := by simpa using h
    all_goals refine awp_seq (awp_region (id := 7) ?_)
    all_goals refine awpOps_cons (op_mvl rfl rfl rfl rfl) ?_
    all_goals refine awpOps_cons (op_asl rfl rfl rfl rfl) ?_
    all_goals refine awpOps_nil ?_
    refine awp_ret ?_
    repeat first | refine rt_seq ?_ | refine rt_block ?_
    exact finM rfl rfl (by rw [take_end hk])
theorem voters_ct (l : List Vote) (c : List Itm) : CtP Tryz.prog 63 [.v l, .v c] (.v (CList.mk (voters l c))) := by
  refine Ct.intro Tryz.func63 rfl rfl ?_
  all_goals refine awp_seq (awp_region (id := 0) ?_)
  all_goals refine awpOps_cons (op_as rfl (Conv.of rfl) rfl) ?_
  all_goals refine awpOps_nil ?_
  all_goals refine awp_seq (awp_region (id := 1) ?_)
  all_goals refine awpOps_cons (op_mkl sl61 z3 rfl rfl (by omega) (by omega) (by omega) rfl) ?_
  all_goals refine awpOps_cons (op_asl rfl rfl rfl rfl) ?_
  all_goals refine awpOps_nil ?_
  all_goals refine awp_seq (awp_seq (awp_region (id := 2) ?_))
  all_goals refine awpOps_cons (op_as rfl (Conv.of rfl) rfl) ?_
  all_goals refine awpOps_nil ?_
  refine awp_block ?_
  refine awp_loop' (fun n s => ∃ (k : Nat), ∃ (hn : n + k = 4), s = mkSt 27 [(0, .v l), (1, .v c), (5, .v (OList.mk ((([1, 2, 3, 4] : List Int).take k).filter fun n => decide (Vote.mk n c ∈ l)) true)), (6, .v ((k : Int) + 1))] []) (4) ⟨0, by omega, rfl⟩ (Le.mk rfl (tle rfl (rfl) rfl (tle rfl (rfl) rfl (tle rfl (by rfl) rfl (tle rfl (rfl) rfl tln)))) oln noS) ?_
  rintro n s ⟨k, hn, rfl⟩
  have hlen : ((([1, 2, 3, 4] : List Int).take k).filter fun n => decide (Vote.mk n c ∈ l)).length ≤ 4 := Nat.le_trans (List.length_filter_le _ _) (by simp; omega)
  all_goals refine awp_seq (awp_seq (awp_region (id := 3) ?_))
  all_goals refine awpOps_cons (op_mv rfl (Conv.of rfl) rfl) ?_
  all_goals refine awpOps_cons (op_leq rfl rfl rfl) ?_
  all_goals refine awpOps_nil ?_
  refine awp_cond rfl (fun h => ?_) (fun h => ?_)
  · have hk : k < 4 := by simp at h; omega
    refine awp_skip ?_
    refine awp_seq (awp_block ?_)
    all_goals refine awp_seq (awp_region (id := 5) ?_)
    all_goals refine awpOps_cons (op_mv rfl (Conv.of rfl) rfl) ?_
    all_goals refine awpOps_cons (op_mv rfl (Conv.of rfl) rfl) ?_
    all_goals refine awpOps_cons (op_mv rfl (Conv.of rfl) rfl) ?_
    all_goals refine awpOps_cons (op_build (.cons f48_0 rfl (Conv.of rfl) (.cons f48_1 rfl (Conv.of rfl) (.nil _))) z48 rfl pl48 rfl) ?_
    all_goals refine awpOps_cons (op_call fb120 (.cons rfl (Conv.of rfl) (.cons rfl (Conv.of rfl) (.nil _))) (has_ct _ _) (argOk rfl rfl (argOk rfl rfl argOk0)) rfl rfl) ?_
    all_goals refine awpOps_nil ?_
    refine awp_cond rfl (fun hb => ?_) (fun hb => ?_)
    · all_goals refine awp_region (id := 6) ?_
      all_goals refine awpOps_cons (op_mvl rfl rfl rfl rfl) ?_
      all_goals refine awpOps_cons (op_mv rfl (Conv.of rfl) rfl) ?_
      all_goals refine awpOps_cons (op_bsl sl61 z3 (.cons rfl (Conv.of rfl) (.nil _)) rfl (by decide) rfl) ?_
      all_goals refine awpOps_cons (op_app sl61 z3 ul61 rfl rfl rfl (by (simp only [List.length_singleton]; omega)) (by (simp only [List.length_singleton]; omega)) rfl rfl) ?_
      all_goals refine awpOps_cons (op_asl rfl rfl rfl rfl) ?_
      all_goals refine awpOps_nil ?_
      all_goals refine awp_region (id := 4) ?_
      all_goals refine awpOps_cons (op_mv rfl (Conv.of rfl) rfl) ?_
      all_goals refine awpOps_cons (op_add rfl rfl rfl (by omega)) ?_
      all_goals refine awpOps_cons (op_as rfl (Conv.of rfl) rfl) ?_
      all_goals refine awpOps_nil ?_
      repeat first | refine nx_seq ?_ | refine nx_block ?_
      exact ⟨n - 1, _, by omega, ⟨k + 1, by omega, rfl⟩, Le.mk rfl (tle rfl (rfl) rfl (tle rfl (rfl) rfl (tle rfl (by (rw [voters_step k hk, hb]; simp)) rfl (tle rfl (rfl) rfl tln)))) oln noS⟩
    · refine awp_skip ?_
      all_goals refine awp_region (id := 4) ?_
      all_goals refine awpOps_cons (op_mv rfl (Conv.of rfl) rfl) ?_
      all_goals refine awpOps_cons (op_add rfl rfl rfl (by omega)) ?_
      all_goals refine awpOps_cons (op_as rfl (Conv.of rfl) rfl) ?_
      all_goals refine awpOps_nil ?_
      repeat first | refine nx_seq ?_ | refine nx_block ?_
      exact ⟨n - 1, _, by omega, ⟨k + 1, by omega, rfl⟩, Le.mk rfl (tle rfl (rfl) rfl (tle rfl (rfl) rfl (tle rfl (by (rw [voters_step k hk, hb]; simp)) rfl (tle rfl (rfl) rfl tln)))) oln noS⟩
  · refine awp_exit ?_
    repeat refine ex_seq ?_
    refine ex_block ?_
    have hk : k = 4 := by simp at h; omega
    subst hk
    all_goals refine awp_seq (awp_region (id := 7) ?_)
    all_goals refine awpOps_cons (op_mvl rfl rfl rfl rfl) ?_
    all_goals refine awpOps_cons (op_mv rfl (Conv.of rfl) rfl) ?_
    all_goals refine awpOps_cons (op_len sl61 rfl rfl) ?_
    all_goals refine awpOps_cons (op_mv rfl (Conv.of rfl) rfl) ?_
    all_goals refine awpOps_cons (op_len sl61 rfl rfl) ?_
    all_goals refine awpOps_cons (op_slhm sl61 rfl rfl rfl rfl (by simp)) ?_
    all_goals refine awpOps_cons (op_as rfl (Conv.of rfl) rfl) ?_
    all_goals refine awpOps_nil ?_
    refine awp_ret ?_
    repeat first | refine rt_seq ?_ | refine rt_block ?_
    refine finP (.v rfl (Conv.of rfl)) rfl ?_
    show AV.v (CList.mk _) = _
    simp only [Int.toNat_natCast, List.take_length]; rfl
theorem sure_ct (l : List Vote) (c : List Itm) : CtP Tryz.prog 152 [.v l, .v c] (.v (sure l c)) := by
  refine Ct.intro Tryz.func152 rfl rfl ?_
  refine awp_bigL 1 rfl (fun hB => ?_)
  all_goals refine awp_seq (awp_region (id := 0) ?_)
  all_goals refine awpOps_cons (op_as rfl (Conv.of rfl) rfl) ?_
  all_goals refine awpOps_nil ?_
  all_goals refine awp_seq (awp_seq (awp_region (id := 1) ?_))
  all_goals refine awpOps_cons (op_as rfl (Conv.of rfl) rfl) ?_
  all_goals refine awpOps_nil ?_
  refine awp_block ?_
  refine awp_loop' (fun n s => ∃ (k : Nat), ∃ (hn : n + k = c.length), ∃ (hall : sure l c = sureFrom l c k n), s = mkSt 19 [(0, .v l), (1, .v c), (5, .v ((k : Int) + 1))] []) (c.length) ⟨0, by omega, rfl, rfl⟩ (Le.mk rfl (tle rfl (rfl) rfl (tle rfl (rfl) rfl (tle rfl (rfl) rfl tln))) oln noS) ?_
  rintro n s ⟨k, hn, hall, rfl⟩
  all_goals refine awp_seq (awp_seq (awp_region (id := 2) ?_))
  all_goals refine awpOps_cons (op_mv rfl (Conv.of rfl) rfl) ?_
  all_goals refine awpOps_cons (op_mv rfl (Conv.of rfl) rfl) ?_
  all_goals refine awpOps_cons (op_len sl34 rfl rfl) ?_
  all_goals refine awpOps_cons (op_leq rfl rfl rfl) ?_
  all_goals refine awpOps_nil ?_
  refine awp_cond rfl (fun h => ?_) (fun h => ?_)
  · have hlt : k < c.length := by simp at h; omega
    obtain ⟨n', rfl⟩ : ∃ n', n = n' + 1 := ⟨n - 1, by omega⟩
    refine awp_skip ?_
    refine awp_seq (awp_block ?_)
    all_goals refine awp_seq (awp_region (id := 4) ?_)
    all_goals refine awpOps_cons (op_mv rfl (Conv.of rfl) rfl) ?_
    all_goals refine awpOps_cons (op_mv rfl (Conv.of rfl) rfl) ?_
    all_goals refine awpOps_cons (op_mv rfl (Conv.of rfl) rfl) ?_
    all_goals refine awpOps_cons (op_slh sl34 rfl rfl rfl (by omega)) ?_
    all_goals refine awpOps_cons (op_call fb63 (.cons rfl (Conv.of rfl) (.cons rfl (Conv.of rfl) (.nil _))) (voters_ct _ _) (argOk rfl rfl (argOk rfl rfl argOk0)) rfl rfl) ?_
    all_goals refine awpOps_cons (op_len sl61 rfl rfl) ?_
    all_goals refine awpOps_cons (op_lss rfl rfl rfl) ?_
    all_goals refine awpOps_nil ?_
    refine awp_cond rfl (fun hb => ?_) (fun hb => ?_)
    · all_goals refine awp_seq (awp_region (id := 5) ?_)
      all_goals refine awpOps_cons (op_as rfl (Conv.of rfl) rfl) ?_
      all_goals refine awpOps_nil ?_
      refine awp_ret ?_
      repeat first | refine rt_seq ?_ | refine rt_block ?_
      refine finP (.v rfl (Conv.of rfl)) rfl ?_
      show AV.v false = _
      have hb' : ((voters l (c.take ((k : Int) + 1).toNat)).length : Int) < 3 := by simpa using hb
      rw [hall, sure_step, decide_eq_false (by rw [show ((k : Int) + 1).toNat = k + 1 by omega] at hb'; omega), Bool.false_and]
    · refine awp_skip ?_
      all_goals refine awp_region (id := 3) ?_
      all_goals refine awpOps_cons (op_mv rfl (Conv.of rfl) rfl) ?_
      all_goals refine awpOps_cons (op_add rfl rfl rfl (by omega)) ?_
      all_goals refine awpOps_cons (op_as rfl (Conv.of rfl) rfl) ?_
      all_goals refine awpOps_nil ?_
      have hb' : 3 ≤ ((voters l (c.take ((k : Int) + 1).toNat)).length : Int) := by simpa using hb
      repeat first | refine nx_seq ?_ | refine nx_block ?_
      exact ⟨n', _, by omega, ⟨k + 1, by omega, by rw [hall, sure_step, decide_eq_true (by rw [show ((k : Int) + 1).toNat = k + 1 by omega] at hb'; omega), Bool.true_and], rfl⟩, Le.mk rfl (tle rfl (rfl) rfl (tle rfl (rfl) rfl (tle rfl (rfl) rfl tln))) oln noS⟩
  · refine awp_exit ?_
    repeat refine ex_seq ?_
    refine ex_block ?_
    have hk : n = 0 := by simp at h; omega
    subst hk
    all_goals refine awp_seq (awp_region (id := 6) ?_)
    all_goals refine awpOps_cons (op_as rfl (Conv.of rfl) rfl) ?_
    all_goals refine awpOps_nil ?_
    refine awp_ret ?_
    repeat first | refine rt_seq ?_ | refine rt_block ?_
    refine finP (.v rfl (Conv.of rfl)) rfl ?_
    show AV.v true = _
    rw [hall]; rfl
end Go.Proofs.YtmdhfalfppkpeaaGreat

/- Sure chains, the longest, the final part. -/
set_option linter.unusedVariables false
set_option linter.unusedSimpArgs false
namespace Go.Proofs.YtmdhfalfppkpeaaGreat
open Go Go.Wt
theorem allFn_ct (x : CList Itm) (hO : Nat → Wt.Obj) (o : Nat) (v : Vote) (ho : hO o = .cell v) : Ct Tryz.prog 161 [.v x, .box o (IsLens.whole Vote)] hO (fun r1 h1 => r1 = .v (decide (x.l = v.chain)) ∧ h1 = hO) := by
  refine Ct.intro Tryz.func161 rfl rfl ?_
  all_goals refine awp_seq (awp_region (id := 0) ?_)
  all_goals refine awpOps_cons (op_as rfl (Conv.of rfl) rfl) ?_
  all_goals refine awpOps_nil ?_
  all_goals refine awp_seq (awp_region (id := 1) ?_)
  all_goals refine awpOps_cons (op_mv rfl (Conv.of rfl) rfl) ?_
  all_goals refine awpOps_cons (op_fab f48_1 rfl rfl) ?_
  all_goals refine awpOps_cons (op_ld ty34 rfl ho rfl) ?_
  all_goals refine awpOps_cons (op_call fb162 (.cons rfl (Conv.cl) (.cons rfl (Conv.of rfl) (.nil _))) (equal_ct _ _) (argOk rfl rfl (argOk rfl rfl argOk0)) rfl rfl) ?_
  all_goals refine awpOps_cons (op_as rfl (Conv.of rfl) rfl) ?_
  all_goals refine awpOps_nil ?_
  refine awp_ret ?_
  repeat first | refine rt_seq ?_ | refine rt_block ?_
  exact finH (r := .v _) (.v rfl (Conv.of rfl)) rfl rfl
theorem map_any (l : List (List Itm)) (c : List Itm) : ((l.map CList.mk).any fun x => decide (x.l = c)) = decide (c ∈ l) := by
  rw [Bool.eq_iff_iff]; simp
set_option maxHeartbeats 1000000 in
theorem all_ct (l : List Vote) (hl : l.length ≤ 100000) (hv : ∀ v ∈ l, v.chain.length ≤ 1000000) : CtP Tryz.prog 121 [.v l] (.v (CList.mk ((allOf l).map CList.mk))) := by
  refine Ct.intro Tryz.func121 rfl rfl ?_
  all_goals refine awp_seq (awp_region (id := 0) ?_)
  all_goals refine awpOps_cons (op_as rfl (Conv.of rfl) rfl) ?_
  all_goals refine awpOps_nil ?_
  all_goals refine awp_seq (awp_region (id := 1) ?_)
  all_goals refine awpOps_cons (op_bsc sl34 z60 (.nil _) rfl (by decide) rfl) ?_
  all_goals refine awpOps_cons (op_bsl sl33_CListItm z34_CListItm (.cons rfl (Conv.of rfl) (.nil _)) rfl (by decide) rfl) ?_
  all_goals refine awpOps_cons (op_asl rfl rfl rfl rfl) ?_
  all_goals refine awpOps_nil ?_
  all_goals refine awp_seq (awp_seq (awp_region (id := 2) ?_))
  all_goals refine awpOps_cons (op_mv rfl (Conv.of rfl) rfl) ?_
  all_goals refine awpOps_cons (op_len sl93 rfl rfl) ?_
  all_goals refine awpOps_cons (op_mv rfl (Conv.of rfl) rfl) ?_
  all_goals refine awpOps_nil ?_
  refine awp_block ?_
  refine awp_loop' (fun n s => ∃ (k : Nat), ∃ (hn : n + k = l.length), s = mkSt 35 [(0, .v l), (3, .v (OList.mk (((l.take k).foldl (allStep l) [[]]).map CList.mk) true)), (9, .v l), (10, .v (l.length : Int)), (11, .v (k : Int))] []) (l.length) ⟨0, by omega, rfl⟩ (Le.mk rfl (tle rfl (rfl) rfl (tle rfl (by rfl) rfl (tle rfl (rfl) rfl (tle rfl (rfl) rfl (tle rfl (rfl) rfl tln))))) oln noS) ?_
  rintro n s ⟨k, hn, rfl⟩
  have hout := allStep_len l (l.take k) [[]]
  have hout' : ((l.take k).foldl (allStep l) [[]]).length ≤ 100001 := by simp at hout; omega
  all_goals refine awp_seq (awp_region (id := 3) ?_)
  all_goals refine awpOps_cons (op_lss rfl rfl rfl) ?_
  all_goals refine awpOps_nil ?_
  refine awp_seq (awp_cond rfl (fun h => ?_) (fun h => ?_))
  · have hlt : k < l.length := by simpa using h
    have hx : l[k]? = some l[k] := List.getElem?_eq_getElem hlt
    refine awp_skip ?_
    refine awp_seq (awp_block ?_)
    all_goals refine awp_seq (awp_region (id := 4) ?_)
    all_goals refine awpOps_cons (op_ix sl93 rfl rfl rfl (by omega) hx) ?_
    all_goals refine awpOps_cons (op_ldr ty48 rfl rfl) ?_
    all_goals refine awpOps_cons (op_alloc (o := 0) z48 rfl rfl) ?_
    all_goals refine awpOps_cons (op_st ty48 rfl rfl (Conv.of rfl) rfl) ?_
    all_goals refine awpOps_nil ?_
    all_goals refine awp_seq (awp_region (id := 5) ?_)
    all_goals refine awpOps_cons (op_mv rfl Conv.ol rfl) ?_
    all_goals refine awpOps_cons (op_mf (f := 161) .nil (.cons (r := .box 0 (IsLens.whole Vote)) rfl (Conv.of rfl) .nil) rfl) ?_
    all_goals refine awpOps_callH rfl (fb160) (.cons rfl (Conv.of rfl) (.cons rfl (Conv.of rfl) (.nil _))) rfl (containsC_ct _ _ [] [.box 0 (IsLens.whole Vote)] _ (fun x => decide (x.l = l[k].chain)) (fb161) (fun x hx => allFn_ct x _ 0 l[k] rfl) (by intro z hz; simp [avs, FV.av] at hz; subst hz; exact ⟨rfl, fun o ho => by simp [AV.refs] at ho; subst ho; rfl⟩) (fun o => by by_cases e : o = 0 <;> simp [mkSt, st0, St.upd, lk, lk0, orr, e, obOk, noObj] <;> exact plain_refs _)) (Hand.none (Hand.l1 (Hand.of rfl rfl) (Hand.l1 ⟨rfl, fun o ho => by simp [AV.refs, FV.refs] at ho; subst ho; rfl⟩ Hand.l0))) (fun o => by by_cases e : o = 0 <;> simp [mkSt, st0, St.upd, lk, lk0, orr, e, obOk, noObj] <;> exact plain_refs _) rfl rfl ?_
    all_goals refine awpOps_cons (op_as rfl (Conv.of rfl) rfl) ?_
    all_goals refine awpOps_nil ?_
    rw [map_any]
    refine awp_seq_to (s' := mkSt 35 [(0, .v l), (3, .v (OList.mk (((l.take k).foldl (allStep l) [[]]).map CList.mk) true)), (5, .box 0 (IsLens.whole Vote)), (9, .v l), (10, .v (l.length : Int)), (11, .v (k : Int)), (25, .v (!decide (l[k].chain ∈ (l.take k).foldl (allStep l) [[]]) && sure l l[k].chain))] [(0, .cell l[k])]) ?_ ?_
    · all_goals refine awp_region (id := 6) ?_
      all_goals refine awpOps_cons (op_mv rfl (Conv.of rfl) rfl) ?_
      all_goals refine awpOps_cons (op_not rfl rfl) ?_
      all_goals refine awpOps_cons (op_mv rfl (Conv.of rfl) rfl) ?_
      all_goals refine g_split (t := 20) rfl (fun h => ?_) (fun h => ?_)
      all_goals first | refine awpOps_cons (g_off rfl rfl rfl rfl rfl) ?_ | refine awpOps_cons (g_on rfl rfl rfl (op_mv rfl (Conv.of rfl) rfl)) ?_
      all_goals first | refine awpOps_cons (g_off rfl rfl rfl rfl rfl) ?_ | refine awpOps_cons (g_on rfl rfl rfl (op_fab f48_1 rfl rfl)) ?_
      all_goals first | refine awpOps_cons (g_off rfl rfl rfl rfl rfl) ?_ | refine awpOps_cons (g_on rfl rfl rfl (op_ld ty34 rfl rfl rfl)) ?_
      all_goals first | refine awpOps_cons (g_off rfl rfl rfl rfl rfl) ?_ | refine awpOps_cons (g_on rfl rfl rfl (op_call fb152 (.cons rfl (Conv.of rfl) (.cons rfl (Conv.of rfl) (.nil _))) (sure_ct _ _) (argOk rfl rfl (argOk rfl rfl argOk0)) rfl rfl)) ?_
      all_goals refine awpOps_cons (op_pick rfl rfl rfl rfl) ?_
      all_goals refine awpOps_nil ?_
      all_goals exact Le.mk rfl (tle rfl (rfl) rfl (tle rfl (rfl) rfl (tlb rfl rfl rfl (tle rfl (rfl) rfl (tle rfl (rfl) rfl (tle rfl (rfl) rfl (tle rfl (by simp_all) rfl tln))))))) (olk rfl (by exact obOk_cell) oln) noS
    refine awp_cond rfl (fun hb => ?_) (fun hb => ?_)
    · all_goals refine awp_region (id := 7) ?_
      all_goals refine awpOps_cons (op_mvl rfl rfl rfl rfl) ?_
      all_goals refine awpOps_cons (op_fab f48_1 rfl rfl) ?_
      all_goals refine awpOps_cons (op_ld ty34 rfl rfl rfl) ?_
      all_goals refine awpOps_cons (op_call fb62 (.cons rfl (Conv.of rfl) (.nil _)) (copied_ct _ (hv _ (List.getElem_mem hlt))) (argOk rfl rfl argOk0) rfl rfl) ?_
      all_goals refine awpOps_cons (op_bsl sl33_CListItm z34_CListItm (.cons rfl (Conv.of rfl) (.nil _)) rfl (by decide) rfl) ?_
      all_goals refine awpOps_cons (op_app sl33_CListItm z34_CListItm ul33 rfl rfl rfl (by (simp; omega)) (by (simp; omega)) rfl rfl) ?_
      all_goals refine awpOps_cons (op_asl rfl rfl rfl rfl) ?_
      all_goals refine awpOps_nil ?_
      all_goals refine awp_region (id := 8) ?_
      all_goals refine awpOps_cons (op_add rfl rfl rfl (by omega)) ?_
      all_goals refine awpOps_cons (op_mv rfl (Conv.of rfl) rfl) ?_
      all_goals refine awpOps_nil ?_
      repeat first | refine nx_seq ?_ | refine nx_block ?_
      exact ⟨n - 1, _, by omega, ⟨k + 1, by omega, rfl⟩, Le.mk rfl (tle rfl (rfl) rfl (tle rfl (by (rw [foldl_at _ _ hx]; simp [allStep, *])) rfl (tle rfl (rfl) rfl (tle rfl (rfl) rfl (tle rfl (rfl) rfl tln))))) oln noS⟩
    · refine awp_skip ?_
      all_goals refine awp_region (id := 8) ?_
      all_goals refine awpOps_cons (op_add rfl rfl rfl (by omega)) ?_
      all_goals refine awpOps_cons (op_mv rfl (Conv.of rfl) rfl) ?_
      all_goals refine awpOps_nil ?_
      repeat first | refine nx_seq ?_ | refine nx_block ?_
      exact ⟨n - 1, _, by omega, ⟨k + 1, by omega, rfl⟩, Le.mk rfl (tle rfl (rfl) rfl (tle rfl (by (rw [foldl_at _ _ hx]; simp [allStep, *])) rfl (tle rfl (rfl) rfl (tle rfl (rfl) rfl (tle rfl (rfl) rfl tln))))) oln noS⟩
  · refine awp_exit ?_
    repeat refine ex_seq ?_
    refine ex_block ?_
    have hk : l.length ≤ k := by simpa using h
    all_goals refine awp_seq (awp_region (id := 9) ?_)
    all_goals refine awpOps_cons (op_mvl rfl rfl rfl rfl) ?_
    all_goals refine awpOps_cons (op_call fb163 (.cons rfl (Conv.ol) (.nil _)) (clipC_ct ⟨((l.take k).foldl (allStep l) [[]]).map CList.mk, true⟩) (argOk rfl rfl argOk0) rfl rfl) ?_
    all_goals refine awpOps_cons (op_as rfl (Conv.of rfl) rfl) ?_
    all_goals refine awpOps_nil ?_
    refine awp_ret ?_
    repeat first | refine rt_seq ?_ | refine rt_block ?_
    refine finP (.v rfl (Conv.of rfl)) rfl ?_
    simp only [take_end hk]; rfl
theorem allOf_len {l : List Vote} (hl : l.length ≤ 100000) : (allOf l).length ≤ 100001 := by
  have := allStep_len l l [[]]
  simp at this; unfold allOf; omega
theorem tip_ct (l : List Vote) (hl : l.length ≤ 100000) (hv : ∀ v ∈ l, v.chain.length ≤ 1000000) : CtP Tryz.prog 108 [.v l] (.v (CList.mk (tipOf l))) := by
  have hall := allOf_len hl
  refine Ct.intro Tryz.func108 rfl rfl ?_
  all_goals refine awp_seq (awp_region (id := 0) ?_)
  all_goals refine awpOps_cons (op_as rfl (Conv.of rfl) rfl) ?_
  all_goals refine awpOps_nil ?_
  all_goals refine awp_seq (awp_region (id := 1) ?_)
  all_goals refine awpOps_cons (op_bsc sl34 z60 (.nil _) rfl (by decide) rfl) ?_
  all_goals refine awpOps_cons (op_as rfl (Conv.of rfl) rfl) ?_
  all_goals refine awpOps_nil ?_
  all_goals refine awp_seq (awp_seq (awp_region (id := 2) ?_))
  all_goals refine awpOps_cons (op_mv rfl (Conv.of rfl) rfl) ?_
  all_goals refine awpOps_cons (op_call fb121 (.cons rfl (Conv.of rfl) (.nil _)) (all_ct l hl hv) (argOk rfl rfl argOk0) rfl rfl) ?_
  all_goals refine awpOps_cons (op_len sl33_CListItm rfl rfl) ?_
  all_goals refine awpOps_cons (op_mv rfl (Conv.of rfl) rfl) ?_
  all_goals refine awpOps_nil ?_
  refine awp_block ?_
  refine awp_loop' (fun n s => ∃ (k : Nat), ∃ (hn : n + k = (allOf l).length), s = mkSt 22 [(3, .v (CList.mk (((allOf l).take k).foldl tipStep []))), (8, .v (CList.mk ((allOf l).map CList.mk))), (9, .v ((allOf l).length : Int)), (10, .v (k : Int))] []) ((allOf l).length) ⟨0, by omega, rfl⟩ (Le.mk rfl (tle rfl (by rfl) rfl (tle rfl (rfl) rfl (tle rfl (by simp) rfl (tle rfl (rfl) rfl tln)))) oln noS) ?_
  rintro n s ⟨k, hn, rfl⟩
  all_goals refine awp_seq (awp_region (id := 3) ?_)
  all_goals refine awpOps_cons (op_lss rfl rfl rfl) ?_
  all_goals refine awpOps_nil ?_
  refine awp_seq (awp_cond rfl (fun h => ?_) (fun h => ?_))
  · have hlt : k < (allOf l).length := by simpa using h
    have hx : (allOf l)[k]? = some (allOf l)[k] := List.getElem?_eq_getElem hlt
    have hx' : ((allOf l).map CList.mk)[(k : Int).toNat]? = some (CList.mk (allOf l)[k]) := by simp [hlt]
    refine awp_skip ?_
    refine awp_seq (awp_block ?_)
    all_goals refine awp_seq (awp_region (id := 4) ?_)
    all_goals refine awpOps_cons (op_ix sl33_CListItm rfl rfl rfl (by omega) hx') ?_
    all_goals refine awpOps_cons (op_ldr ty34_CListItm rfl rfl) ?_
    all_goals refine awpOps_cons (op_as rfl (Conv.of rfl) rfl) ?_
    all_goals refine awpOps_nil ?_
    all_goals refine awp_seq (awp_region (id := 5) ?_)
    all_goals refine awpOps_cons (op_mv rfl (Conv.of rfl) rfl) ?_
    all_goals refine awpOps_cons (op_len sl34 rfl rfl) ?_
    all_goals refine awpOps_cons (op_mv rfl (Conv.of rfl) rfl) ?_
    all_goals refine awpOps_cons (op_len sl34 rfl rfl) ?_
    all_goals refine awpOps_cons (op_gtr rfl rfl rfl) ?_
    all_goals refine awpOps_nil ?_
    refine awp_cond rfl (fun hb => ?_) (fun hb => ?_)
    · have hb' : (((allOf l).take k).foldl tipStep []).length < ((allOf l)[k]).length := by simp at hb; omega
      have hb'' := eq_true hb'
      all_goals refine awp_region (id := 6) ?_
      all_goals refine awpOps_cons (op_mv rfl (Conv.of rfl) rfl) ?_
      all_goals refine awpOps_cons (op_as rfl (Conv.of rfl) rfl) ?_
      all_goals refine awpOps_nil ?_
      all_goals refine awp_region (id := 7) ?_
      all_goals refine awpOps_cons (op_add rfl rfl rfl (by omega)) ?_
      all_goals refine awpOps_cons (op_mv rfl (Conv.of rfl) rfl) ?_
      all_goals refine awpOps_nil ?_
      repeat first | refine nx_seq ?_ | refine nx_block ?_
      exact ⟨n - 1, _, by omega, ⟨k + 1, by omega, rfl⟩, Le.mk rfl (tle rfl (by (rw [foldl_at _ _ hx]; simp [tipStep, hb''])) rfl (tle rfl (rfl) rfl (tle rfl (by rfl) rfl (tle rfl (rfl) rfl tln)))) oln noS⟩
    · have hb' : ¬ (((allOf l).take k).foldl tipStep []).length < ((allOf l)[k]).length := by simp at hb; omega
      have hb'' := eq_false hb'
      refine awp_skip ?_
      all_goals refine awp_region (id := 7) ?_
      all_goals refine awpOps_cons (op_add rfl rfl rfl (by omega)) ?_
      all_goals refine awpOps_cons (op_mv rfl (Conv.of rfl) rfl) ?_
      all_goals refine awpOps_nil ?_
      repeat first | refine nx_seq ?_ | refine nx_block ?_
      exact ⟨n - 1, _, by omega, ⟨k + 1, by omega, rfl⟩, Le.mk rfl (tle rfl (by (rw [foldl_at _ _ hx]; simp [tipStep, hb''])) rfl (tle rfl (rfl) rfl (tle rfl (by rfl) rfl (tle rfl (rfl) rfl tln)))) oln noS⟩
  · refine awp_exit ?_
    repeat refine ex_seq ?_
    refine ex_block ?_
    have hk : (allOf l).length ≤ k := by simpa using h
    all_goals refine awp_seq (awp_region (id := 8) ?_)
    all_goals refine awpOps_cons (op_mv rfl (Conv.of rfl) rfl) ?_
    all_goals refine awpOps_cons (op_as rfl (Conv.of rfl) rfl) ?_
    all_goals refine awpOps_nil ?_
    refine awp_ret ?_
    repeat first | refine rt_seq ?_ | refine rt_block ?_
    refine finP (.v rfl (Conv.of rfl)) rfl ?_
    simp only [take_end hk]; rfl
end Go.Proofs.YtmdhfalfppkpeaaGreat

/- Nodes. -/
set_option linter.unusedVariables false
set_option linter.unusedSimpArgs false
namespace Go.Proofs.YtmdhfalfppkpeaaGreat
open Go Go.Wt
theorem lateFn_ct (v : Vote) (hv : 0 < v.chain.length) (hO : Nat → Wt.Obj) (n : Nod) (ho : hO 0 = .cell n) (hf : hO 9 = .free) (hH : ∀ o, obOk (pH hO) (hO o)) :
    Ct Tryz.prog 133 [.v v, .box 0 (IsLens.whole Nod)] hO (fun r1 h1 => r1 = .v (late n v) ∧ h1 = hO) := by
  refine Ct.intro Tryz.func133 rfl rfl ?_
  all_goals refine awp_seq (awp_region (id := 0) ?_)
  all_goals refine awpOps_cons (op_box (o := 9) ty48 rfl (Conv.of rfl) hf rfl) ?_
  all_goals refine awpOps_cons (op_as rfl (Conv.of rfl) rfl) ?_
  all_goals refine awpOps_nil ?_
  all_goals refine awp_seq (dr_start (id := 1) ?_)
  all_goals refine dr_cons (op_fab f48_0 rfl rfl) ?_
  all_goals refine dr_cons (op_ld ty3 rfl rfl rfl) ?_
  all_goals refine dr_cons (op_fab f41_0 rfl rfl) ?_
  all_goals refine dr_cons (op_ld ty3 rfl ho rfl) ?_
  all_goals refine dr_cons (op_eql rfl rfl rfl) ?_
  all_goals refine dr_cons (op_mv rfl (Conv.of rfl) rfl) ?_
  all_goals refine dr_split (t := 9) rfl (fun h => ?_) (fun h => ?_)
  all_goals first | refine dr_cons (g_off rfl rfl rfl rfl rfl) ?_ | refine dr_cons (g_on rfl rfl rfl (op_ld ty48 rfl rfl rfl)) ?_
  all_goals first | refine dr_cons (g_off rfl rfl rfl rfl rfl) ?_ | refine dr_cons (g_on rfl rfl rfl (op_call fb134 (.cons rfl (Conv.of rfl) (.nil _)) (last_ct _ hv) (argOk rfl rfl argOk0) rfl rfl)) ?_
  all_goals first | refine dr_cons (g_off rfl rfl rfl rfl rfl) ?_ | refine dr_cons (g_on rfl rfl rfl (op_fab f41_2 rfl rfl)) ?_
  all_goals first | refine dr_cons (g_off rfl rfl rfl rfl rfl) ?_ | refine dr_cons (g_on rfl rfl rfl (op_ld ty3 rfl ho rfl)) ?_
  all_goals first | refine dr_cons (g_off rfl rfl rfl rfl rfl) ?_ | refine dr_cons (g_on rfl rfl rfl (op_gtr rfl rfl rfl)) ?_
  all_goals refine dr_cons (op_pick rfl rfl rfl rfl) ?_
  all_goals refine dr_cons (op_as rfl (Conv.of rfl) rfl) ?_
  all_goals refine dr_nil mixed rfl ?_
  all_goals refine awp_ret ?_
  all_goals refine finF (.v rfl (Conv.of rfl)) rfl ?_ (by intro o ho; by_cases e : o = 9 <;> first | (exfalso; subst e; rw [hf] at ho; exact absurd ho (by decide)) | simp only [st0, St.upd, lk, orr, if_neg e]) hH
  all_goals (simp_all [FV.av, late])
theorem nodeOk_ct (n : Nod) : CtP Tryz.prog 84 [.v n] (.v (nodeOk n)) := by
  refine Ct.intro Tryz.func84 rfl rfl ?_
  all_goals refine awp_seq (awp_region (id := 0) ?_)
  all_goals refine awpOps_cons (op_box (o := 0) ty41 rfl (Conv.of rfl) rfl rfl) ?_
  all_goals refine awpOps_cons (op_as rfl (Conv.of rfl) rfl) ?_
  all_goals refine awpOps_nil ?_
  refine awp_seq (awp_seq_to (s' := mkSt 38 [(1, .box 0 (IsLens.whole Nod)), (32, .v (!nodeOk0 n))] [(0, .cell n)]) ?_ ?_)
  · all_goals refine awp_region (id := 1) ?_
    all_goals refine awpOps_cons (op_fab f41_0 rfl rfl) ?_
    all_goals refine awpOps_cons (op_ld ty3 rfl rfl rfl) ?_
    all_goals refine awpOps_cons (op_call fb110 (.cons rfl (Conv.of rfl) (.nil _)) (nodeIdOk_ct _) (argOk rfl rfl argOk0) rfl rfl) ?_
    all_goals refine awpOps_cons (op_not rfl rfl) ?_
    all_goals refine awpOps_cons (op_mv rfl (Conv.of rfl) rfl) ?_
    all_goals refine g_split (t := 7) rfl (fun h => ?_) (fun h => ?_)
    all_goals first | refine awpOps_cons (g_off rfl rfl rfl rfl rfl) ?_ | refine awpOps_cons (g_on rfl rfl rfl (op_fab f41_1 rfl rfl)) ?_
    all_goals first | refine awpOps_cons (g_off rfl rfl rfl rfl rfl) ?_ | refine awpOps_cons (g_on rfl rfl rfl (op_ld ty3 rfl rfl rfl)) ?_
    all_goals first | refine awpOps_cons (g_off rfl rfl rfl rfl rfl) ?_ | refine awpOps_cons (g_on rfl rfl rfl (op_call fb83 (.cons rfl (Conv.of rfl) (.cons rfl (Conv.of rfl) (.cons rfl (Conv.of rfl) (.nil _)))) (within_ct _ _ _) (argOk rfl rfl (argOk rfl rfl (argOk rfl rfl argOk0))) rfl rfl)) ?_
    all_goals first | refine awpOps_cons (g_off rfl rfl rfl rfl rfl) ?_ | refine awpOps_cons (g_on rfl rfl rfl (op_not rfl rfl)) ?_
    all_goals refine awpOps_cons (op_pick rfl rfl rfl rfl) ?_
    all_goals refine awpOps_cons (op_mv rfl (Conv.of rfl) rfl) ?_
    all_goals first | refine g_lit (t := 13) (b := true) rfl ?_ | refine g_split (t := 13) rfl (fun h => ?_) (fun h => ?_)
    all_goals first | refine awpOps_cons (g_off rfl rfl rfl rfl rfl) ?_ | refine awpOps_cons (g_on rfl rfl rfl (op_fab f41_2 rfl rfl)) ?_
    all_goals first | refine awpOps_cons (g_off rfl rfl rfl rfl rfl) ?_ | refine awpOps_cons (g_on rfl rfl rfl (op_ld ty3 rfl rfl rfl)) ?_
    all_goals first | refine awpOps_cons (g_off rfl rfl rfl rfl rfl) ?_ | refine awpOps_cons (g_on rfl rfl rfl (op_fab f41_1 rfl rfl)) ?_
    all_goals first | refine awpOps_cons (g_off rfl rfl rfl rfl rfl) ?_ | refine awpOps_cons (g_on rfl rfl rfl (op_ld ty3 rfl rfl rfl)) ?_
    all_goals first | refine awpOps_cons (g_off rfl rfl rfl rfl rfl) ?_ | refine awpOps_cons (g_on rfl rfl rfl (op_call fb83 (.cons rfl (Conv.of rfl) (.cons rfl (Conv.of rfl) (.cons rfl (Conv.of rfl) (.nil _)))) (within_ct _ _ _) (argOk rfl rfl (argOk rfl rfl (argOk rfl rfl argOk0))) rfl rfl)) ?_
    all_goals first | refine awpOps_cons (g_off rfl rfl rfl rfl rfl) ?_ | refine awpOps_cons (g_on rfl rfl rfl (op_not rfl rfl)) ?_
    all_goals refine awpOps_cons (op_pick rfl rfl rfl rfl) ?_
    all_goals refine awpOps_cons (op_mv rfl (Conv.of rfl) rfl) ?_
    all_goals first | refine g_lit (t := 21) (b := true) rfl ?_ | refine g_split (t := 21) rfl (fun h => ?_) (fun h => ?_)
    all_goals first | refine awpOps_cons (g_off rfl rfl rfl rfl rfl) ?_ | refine awpOps_cons (g_on rfl rfl rfl (op_fab f41_3 rfl rfl)) ?_
    all_goals first | refine awpOps_cons (g_off rfl rfl rfl rfl rfl) ?_ | refine awpOps_cons (g_on rfl rfl rfl (op_ld ty27 rfl rfl rfl)) ?_
    all_goals first | refine awpOps_cons (g_off rfl rfl rfl rfl rfl) ?_ | refine awpOps_cons (g_on rfl rfl rfl (op_len sl27 rfl rfl)) ?_
    all_goals first | refine awpOps_cons (g_off rfl rfl rfl rfl rfl) ?_ | refine awpOps_cons (g_on rfl rfl rfl (op_gtr rfl rfl rfl)) ?_
    all_goals refine awpOps_cons (op_pick rfl rfl rfl rfl) ?_
    all_goals refine awpOps_cons (op_mv rfl (Conv.of rfl) rfl) ?_
    all_goals first | refine g_lit (t := 27) (b := true) rfl ?_ | refine g_split (t := 27) rfl (fun h => ?_) (fun h => ?_)
    all_goals first | refine awpOps_cons (g_off rfl rfl rfl rfl rfl) ?_ | refine awpOps_cons (g_on rfl rfl rfl (op_fab f41_3 rfl rfl)) ?_
    all_goals first | refine awpOps_cons (g_off rfl rfl rfl rfl rfl) ?_ | refine awpOps_cons (g_on rfl rfl rfl (op_ld ty27 rfl rfl rfl)) ?_
    all_goals first | refine awpOps_cons (g_off rfl rfl rfl rfl rfl) ?_ | refine awpOps_cons (g_on rfl rfl rfl (op_call fb59 (.cons rfl (Conv.of rfl) (.nil _)) (votesOk_ct _) (argOk rfl rfl argOk0) rfl rfl)) ?_
    all_goals first | refine awpOps_cons (g_off rfl rfl rfl rfl rfl) ?_ | refine awpOps_cons (g_on rfl rfl rfl (op_not rfl rfl)) ?_
    all_goals refine awpOps_cons (op_pick rfl rfl rfl rfl) ?_
    all_goals refine awpOps_nil ?_
    all_goals exact Le.mk rfl (tlb rfl rfl rfl (tle rfl (by (simp_all [nodeOk0] <;> omega)) rfl tln)) (olk rfl (by exact obOk_cell) oln) noS
  refine awp_cond rfl (fun h => ?_) (fun h => ?_)
  · all_goals refine awp_seq (awp_region (id := 2) ?_)
    all_goals refine awpOps_cons (op_as rfl (Conv.of rfl) rfl) ?_
    all_goals refine awpOps_nil ?_
    refine awp_ret ?_
    repeat first | refine rt_seq ?_ | refine rt_block ?_
    refine finP (.v rfl (Conv.of rfl)) rfl ?_
    show AV.v false = _
    simp [nodeOk, not_t h]
  · refine awp_skip ?_
    have h0 := not_f h
    have hvo : votesOk n.seen = true := by simp only [nodeOk0, Bool.and_eq_true] at h0; exact h0.2
    all_goals refine awp_seq (awp_region (id := 3) ?_)
    all_goals refine awpOps_cons (op_fab f41_3 rfl rfl) ?_
    all_goals refine awpOps_cons (op_ld ty27 rfl rfl rfl) ?_
    all_goals refine awpOps_cons (op_mf (f := 133) .nil (.cons (r := .box 0 (IsLens.whole Nod)) rfl (Conv.of rfl) .nil) rfl) ?_
    all_goals refine awpOps_callH rfl (fb67) (.cons rfl (Conv.of rfl) (.cons rfl (Conv.of rfl) (.nil _))) rfl (containsV_ct _ _ [] [.box 0 (IsLens.whole Nod)] _ (late n) (fb133) (fun x hx => lateFn_ct x (voteOk_pos (votesOk_mem hvo x hx)) _ n rfl rfl (fun o => by by_cases e : o = 0 <;> simp [mkSt, st0, St.upd, lk, lk0, orr, e, obOk, noObj] <;> exact plain_refs _)) (by intro z hz; simp [avs, FV.av] at hz; subst hz; exact ⟨rfl, fun o ho => by simp [AV.refs] at ho; subst ho; rfl⟩) (fun o => by by_cases e : o = 0 <;> simp [mkSt, st0, St.upd, lk, lk0, orr, e, obOk, noObj] <;> exact plain_refs _)) (Hand.none (Hand.l1 (Hand.of rfl rfl) (Hand.l1 ⟨rfl, fun o ho => by simp [AV.refs, FV.refs] at ho; subst ho; rfl⟩ Hand.l0))) (fun o => by by_cases e : o = 0 <;> simp [mkSt, st0, St.upd, lk, lk0, orr, e, obOk, noObj] <;> exact plain_refs _) rfl rfl ?_
    all_goals refine awpOps_cons (op_not rfl rfl) ?_
    all_goals refine awpOps_cons (op_as rfl (Conv.of rfl) rfl) ?_
    all_goals refine awpOps_nil ?_
    refine awp_ret ?_
    repeat first | refine rt_seq ?_ | refine rt_block ?_
    refine finP (.v rfl (Conv.of rfl)) rfl ?_
    show AV.v _ = _
    rw [nodeOk, h0, Bool.true_and]
theorem nodeCopied_ct (n : Nod) (hn : Gd n.seen) : CtP Tryz.prog 105 [.v n] (.v n) := by
  refine Ct.intro Tryz.func105 rfl rfl ?_
  all_goals refine awp_seq (awp_region (id := 0) ?_)
  all_goals refine awpOps_cons (op_box (o := 0) ty41 rfl (Conv.of rfl) rfl rfl) ?_
  all_goals refine awpOps_cons (op_alloc (o := 1) z41 rfl rfl) ?_
  all_goals refine awpOps_nil ?_
  all_goals refine awp_seq (awp_region (id := 1) ?_)
  all_goals refine awpOps_cons (op_fab f41_3 rfl rfl) ?_
  all_goals refine awpOps_cons (op_ld ty27 rfl rfl rfl) ?_
  all_goals refine awpOps_cons (op_call fb115 (.cons rfl (Conv.of rfl) (.nil _)) (votesCopied_ct _ hn.l' hn.v) (argOk rfl rfl argOk0) rfl rfl) ?_
  all_goals refine awpOps_cons (op_fab f41_3 rfl rfl) ?_
  all_goals refine awpOps_cons (op_st ty27 rfl rfl (Conv.ol) rfl) ?_
  all_goals refine awpOps_nil ?_
  all_goals refine awp_seq (awp_region (id := 2) ?_)
  all_goals refine awpOps_cons (op_ld ty41 rfl rfl rfl) ?_
  all_goals refine awpOps_cons (op_st ty41 rfl rfl (Conv.of rfl) rfl) ?_
  all_goals refine awpOps_nil ?_
  refine awp_ret ?_
  repeat first | refine rt_seq ?_ | refine rt_block ?_
  exact finP (.rc ty41 rfl rfl) rfl rfl
theorem enter_ct (n : Nod) (e : Int) (hn : 0 ≤ n.epoch ∧ n.epoch ≤ 30) : CtP Tryz.prog 107 [.v n, .v e] (.v (enterF n e)) := by
  refine Ct.intro Tryz.func107 rfl rfl ?_
  all_goals refine awp_seq (awp_region (id := 0) ?_)
  all_goals refine awpOps_cons (op_box (o := 0) ty41 rfl (Conv.of rfl) rfl rfl) ?_
  all_goals refine awpOps_cons (op_alloc (o := 1) z41 rfl rfl) ?_
  all_goals refine awpOps_nil ?_
  all_goals refine awp_seq (awp_seq (awp_region (id := 1) ?_))
  all_goals refine awpOps_cons (op_mv rfl (Conv.of rfl) rfl) ?_
  all_goals refine awpOps_cons (op_fab f41_1 rfl rfl) ?_
  all_goals refine awpOps_cons (op_ld ty3 rfl rfl rfl) ?_
  all_goals refine awpOps_cons (op_add rfl rfl rfl (by omega)) ?_
  all_goals refine awpOps_cons (op_call fb83 (.cons rfl (Conv.of rfl) (.cons rfl (Conv.of rfl) (.cons rfl (Conv.of rfl) (.nil _)))) (within_ct _ _ _) (argOk rfl rfl (argOk rfl rfl (argOk rfl rfl argOk0))) rfl rfl) ?_
  all_goals refine awpOps_nil ?_
  refine awp_cond rfl (fun h => ?_) (fun h => ?_)
  · all_goals refine awp_region (id := 2) ?_
    all_goals refine awpOps_cons (op_mv rfl (Conv.of rfl) rfl) ?_
    all_goals refine awpOps_cons (op_fab f41_1 rfl rfl) ?_
    all_goals refine awpOps_cons (op_st ty3 rfl rfl (Conv.of rfl) rfl) ?_
    all_goals refine awpOps_nil ?_
    all_goals refine awp_seq (awp_region (id := 3) ?_)
    all_goals refine awpOps_cons (op_ld ty41 rfl rfl rfl) ?_
    all_goals refine awpOps_cons (op_st ty41 rfl rfl (Conv.of rfl) rfl) ?_
    all_goals refine awpOps_nil ?_
    refine awp_ret ?_
    repeat first | refine rt_seq ?_ | refine rt_block ?_
    refine finP (.rc ty41 rfl rfl) rfl ?_
    show AV.v _ = _
    simp [enterF, h]
  · refine awp_skip ?_
    all_goals refine awp_seq (awp_region (id := 3) ?_)
    all_goals refine awpOps_cons (op_ld ty41 rfl rfl rfl) ?_
    all_goals refine awpOps_cons (op_st ty41 rfl rfl (Conv.of rfl) rfl) ?_
    all_goals refine awpOps_nil ?_
    refine awp_ret ?_
    repeat first | refine rt_seq ?_ | refine rt_block ?_
    refine finP (.rc ty41 rfl rfl) rfl ?_
    show AV.v _ = _
    simp [enterF, h]
theorem may_ct (n : Nod) : CtP Tryz.prog 151 [.v n] (.v (mayN n)) := by
  refine Ct.intro Tryz.func151 rfl rfl ?_
  all_goals refine awp_seq (awp_region (id := 0) ?_)
  all_goals refine awpOps_cons (op_box (o := 0) ty41 rfl (Conv.of rfl) rfl rfl) ?_
  all_goals refine awpOps_cons (op_as rfl (Conv.of rfl) rfl) ?_
  all_goals refine awpOps_nil ?_
  all_goals refine awp_seq (awp_region (id := 1) ?_)
  all_goals refine awpOps_cons (op_fab f41_1 rfl rfl) ?_
  all_goals refine awpOps_cons (op_ld ty3 rfl rfl rfl) ?_
  all_goals refine awpOps_cons (op_gtr rfl rfl rfl) ?_
  all_goals refine awpOps_cons (op_mv rfl (Conv.of rfl) rfl) ?_
  all_goals refine g_split (t := 6) rfl (fun h => ?_) (fun h => ?_)
  all_goals first | refine awpOps_cons (g_off rfl rfl rfl rfl rfl) ?_ | refine awpOps_cons (g_on rfl rfl rfl (op_fab f41_2 rfl rfl)) ?_
  all_goals first | refine awpOps_cons (g_off rfl rfl rfl rfl rfl) ?_ | refine awpOps_cons (g_on rfl rfl rfl (op_ld ty3 rfl rfl rfl)) ?_
  all_goals first | refine awpOps_cons (g_off rfl rfl rfl rfl rfl) ?_ | refine awpOps_cons (g_on rfl rfl rfl (op_fab f41_1 rfl rfl)) ?_
  all_goals first | refine awpOps_cons (g_off rfl rfl rfl rfl rfl) ?_ | refine awpOps_cons (g_on rfl rfl rfl (op_ld ty3 rfl rfl rfl)) ?_
  all_goals first | refine awpOps_cons (g_off rfl rfl rfl rfl rfl) ?_ | refine awpOps_cons (g_on rfl rfl rfl (op_neq rfl rfl rfl)) ?_
  all_goals refine awpOps_cons (op_pick rfl rfl rfl rfl) ?_
  all_goals refine awpOps_cons (op_as rfl (Conv.of rfl) rfl) ?_
  all_goals refine awpOps_nil ?_
  all_goals refine awp_ret ?_
  all_goals refine finP (.v rfl (Conv.of rfl)) rfl ?_
  all_goals (simp_all [FV.av, mayN] <;> omega)
theorem nvote_ct (n : Nod) (c : List Itm) (hn : Gd n.seen) (hc : c.length ≤ 1000000) : CtP Tryz.prog 153 [.v n, .v c] (res3 (voteF n c)) := by
  refine Ct.intro Tryz.func153 rfl rfl ?_
  all_goals refine awp_seq (awp_region (id := 0) ?_)
  all_goals refine awpOps_cons (op_box (o := 0) ty41 rfl (Conv.of rfl) rfl rfl) ?_
  all_goals refine awpOps_cons (op_alloc (o := 1) z41 rfl rfl) ?_
  all_goals refine awpOps_cons (op_alloc (o := 2) z48 rfl rfl) ?_
  all_goals refine awpOps_cons (op_as rfl (Conv.of rfl) rfl) ?_
  all_goals refine awpOps_nil ?_
  all_goals refine awp_seq (awp_seq (awp_region (id := 1) ?_))
  all_goals refine awpOps_cons (op_fab f41_3 rfl rfl) ?_
  all_goals refine awpOps_cons (op_ld ty27 rfl rfl rfl) ?_
  all_goals refine awpOps_cons (op_len sl27 rfl rfl) ?_
  all_goals refine awpOps_cons (op_geq rfl rfl rfl) ?_
  all_goals refine awpOps_nil ?_
  refine awp_cond rfl (fun h => ?_) (fun h => ?_)
  · have h' : decide (80 ≤ n.seen.length) = true := by simp at h ⊢; omega
    all_goals refine awp_seq (awp_region (id := 2) ?_)
    all_goals refine awpOps_cons (op_ld ty41 rfl rfl rfl) ?_
    all_goals refine awpOps_cons (op_build (.nil _) z48 rfl pl48 rfl) ?_
    all_goals refine awpOps_cons (op_st ty41 rfl rfl (Conv.of rfl) rfl) ?_
    all_goals refine awpOps_cons (op_st ty48 rfl rfl (Conv.of rfl) rfl) ?_
    all_goals refine awpOps_cons (op_as rfl (Conv.of rfl) rfl) ?_
    all_goals refine awpOps_nil ?_
    refine awp_ret ?_
    repeat first | refine rt_seq ?_ | refine rt_block ?_
    refine finN (.cons (.rc ty41 rfl rfl) (.cons (.rc ty48 rfl rfl) (.cons (.v rfl (Conv.of rfl)) .nil))) rfl rfl ?_
    simp only [voteF, h', if_true]; rfl
  · have h' : decide (80 ≤ n.seen.length) = false := by simp at h ⊢; omega
    refine awp_skip ?_
    all_goals refine awp_seq (awp_region (id := 3) ?_)
    all_goals refine awpOps_cons (op_fab f41_0 rfl rfl) ?_
    all_goals refine awpOps_cons (op_ld ty3 rfl rfl rfl) ?_
    all_goals refine awpOps_cons (op_mv rfl (Conv.of rfl) rfl) ?_
    all_goals refine awpOps_cons (op_build (.cons f48_0 rfl (Conv.of rfl) (.cons f48_1 rfl (Conv.of rfl) (.nil _))) z48 rfl pl48 rfl) ?_
    all_goals refine awpOps_cons (op_alloc (o := 3) z48 rfl rfl) ?_
    all_goals refine awpOps_cons (op_st ty48 rfl rfl (Conv.of rfl) rfl) ?_
    all_goals refine awpOps_nil ?_
    all_goals refine awp_seq (awp_region (id := 4) ?_)
    all_goals refine awpOps_cons (op_fab f41_1 rfl rfl) ?_
    all_goals refine awpOps_cons (op_ld ty3 rfl rfl rfl) ?_
    all_goals refine awpOps_cons (op_fab f41_2 rfl rfl) ?_
    all_goals refine awpOps_cons (op_st ty3 rfl rfl (Conv.of rfl) rfl) ?_
    all_goals refine awpOps_nil ?_
    all_goals refine awp_seq (awp_region (id := 5) ?_)
    all_goals refine awpOps_cons (op_fab f41_3 rfl rfl) ?_
    all_goals refine awpOps_cons (op_ld ty27 rfl rfl rfl) ?_
    all_goals refine awpOps_cons (op_ld ty48 rfl rfl rfl) ?_
    all_goals refine awpOps_cons (op_call fb150 (.cons rfl (Conv.of rfl) (.cons rfl (Conv.of rfl) (.nil _))) (with_ct _ ⟨n.id, c⟩ hn.l' hc) (argOk rfl rfl (argOk rfl rfl argOk0)) rfl rfl) ?_
    all_goals refine awpOps_cons (op_fab f41_3 rfl rfl) ?_
    all_goals refine awpOps_cons (op_st ty27 rfl rfl (Conv.cl) rfl) ?_
    all_goals refine awpOps_nil ?_
    all_goals refine awp_seq (dr_start (id := 6) ?_)
    all_goals refine dr_cons (op_ld ty41 rfl rfl rfl) ?_
    all_goals refine dr_cons (op_ld ty48 rfl rfl rfl) ?_
    all_goals refine dr_cons (op_call fb157 (.cons rfl (Conv.of rfl) (.nil _)) (voteCopied_ct ⟨n.id, c⟩ hc) (argOk rfl rfl argOk0) rfl rfl) ?_
    all_goals refine dr_cons (op_st ty41 rfl rfl (Conv.of rfl) rfl) ?_
    all_goals refine dr_cons (op_st ty48 rfl rfl (Conv.of rfl) rfl) ?_
    all_goals refine dr_cons (op_as rfl (Conv.of rfl) rfl) ?_
    all_goals refine dr_nil mixed rfl ?_
    refine awp_ret ?_
    repeat first | refine rt_seq ?_ | refine rt_block ?_
    refine finN (.cons (.rc ty41 rfl rfl) (.cons (.rc ty48 rfl rfl) (.cons (.v rfl (Conv.of rfl)) .nil))) rfl rfl ?_
    simp only [voteF, h']; rfl
set_option maxHeartbeats 1000000 in
theorem npropose_ct (n : Nod) (p : Pay) (hn : Gd n.seen) : CtP Tryz.prog 156 [.v n, .v p] (res3 (proposeF n p)) := by
  have htip := hn.tip
  refine Ct.intro Tryz.func156 rfl rfl ?_
  all_goals refine awp_seq (awp_region (id := 0) ?_)
  all_goals refine awpOps_cons (op_box (o := 0) ty41 rfl (Conv.of rfl) rfl rfl) ?_
  all_goals refine awpOps_cons (op_box (o := 1) ty58 rfl (Conv.of rfl) rfl rfl) ?_
  all_goals refine awpOps_cons (op_alloc (o := 2) z41 rfl rfl) ?_
  all_goals refine awpOps_cons (op_alloc (o := 3) z48 rfl rfl) ?_
  all_goals refine awpOps_cons (op_as rfl (Conv.of rfl) rfl) ?_
  all_goals refine awpOps_nil ?_
  all_goals refine awp_seq (dr_start (id := 1) ?_)
  all_goals refine dr_cons (op_fab f41_3 rfl rfl) ?_
  all_goals refine dr_cons (op_ld ty27 rfl rfl rfl) ?_
  all_goals refine dr_cons (op_call fb108 (.cons rfl (Conv.of rfl) (.nil _)) (tip_ct _ hn.l hn.v) (argOk rfl rfl argOk0) rfl rfl) ?_
  all_goals refine dr_cons (op_fab f41_1 rfl rfl) ?_
  all_goals refine dr_cons (op_ld ty3 rfl rfl rfl) ?_
  all_goals refine dr_cons (op_ld ty58 rfl rfl rfl) ?_
  all_goals refine dr_cons (op_build (.cons f60_0 rfl (Conv.of rfl) (.cons f60_1 rfl (Conv.of rfl) (.nil _))) z60 rfl pl60 rfl) ?_
  all_goals refine dr_cons (op_bsl sl34 z60 (.cons rfl (Conv.of rfl) (.nil _)) rfl (by decide) rfl) ?_
  all_goals refine dr_cons (op_app sl34 z60 ul34 rfl rfl rfl (by (simp; omega)) (by (simp; omega)) rfl rfl) ?_
  all_goals refine dr_cons (op_asl rfl rfl rfl rfl) ?_
  all_goals refine dr_nil mixed rfl ?_
  refine awp_seq (awp_seq_to (s' := mkSt 41 [(2, .box 0 (IsLens.whole Nod)), (4, .box 2 (IsLens.whole Nod)), (5, .box 3 (IsLens.whole Vote)), (6, .v false), (7, .v (OList.mk (tipOf n.seen ++ [⟨n.epoch, p⟩]) true)), (32, .v (!(mayN n && decide (leader n.epoch = n.id) && chainOk (tipOf n.seen ++ [⟨n.epoch, p⟩]))))] [(0, .cell n), (2, .cell Nod.zero), (3, .cell Vote.zero)]) ?_ ?_)
  · all_goals refine dr_start (id := 2) ?_
    all_goals refine dr_cons (op_ld ty41 rfl rfl rfl) ?_
    all_goals refine dr_cons (op_call fb151 (.cons rfl (Conv.of rfl) (.nil _)) (may_ct _) (argOk rfl rfl argOk0) rfl rfl) ?_
    all_goals refine dr_cons (op_not rfl rfl) ?_
    all_goals refine dr_cons (op_mv rfl (Conv.of rfl) rfl) ?_
    all_goals refine dr_split (t := 20) rfl (fun h => ?_) (fun h => ?_)
    all_goals first | refine dr_cons (g_off rfl rfl rfl rfl rfl) ?_ | refine dr_cons (g_on rfl rfl rfl (op_fab f41_1 rfl rfl)) ?_
    all_goals first | refine dr_cons (g_off rfl rfl rfl rfl rfl) ?_ | refine dr_cons (g_on rfl rfl rfl (op_ld ty3 rfl rfl rfl)) ?_
    all_goals first | refine dr_cons (g_off rfl rfl rfl rfl rfl) ?_ | refine dr_cons (g_on rfl rfl rfl (op_call fb127 (.cons rfl (Conv.of rfl) (.nil _)) (leader_ct _) (argOk rfl rfl argOk0) rfl rfl)) ?_
    all_goals first | refine dr_cons (g_off rfl rfl rfl rfl rfl) ?_ | refine dr_cons (g_on rfl rfl rfl (op_fab f41_0 rfl rfl)) ?_
    all_goals first | refine dr_cons (g_off rfl rfl rfl rfl rfl) ?_ | refine dr_cons (g_on rfl rfl rfl (op_ld ty3 rfl rfl rfl)) ?_
    all_goals first | refine dr_cons (g_off rfl rfl rfl rfl rfl) ?_ | refine dr_cons (g_on rfl rfl rfl (op_neq rfl rfl rfl)) ?_
    all_goals refine dr_cons (op_pick rfl rfl rfl rfl) ?_
    all_goals refine dr_cons (op_mv rfl (Conv.of rfl) rfl) ?_
    all_goals first | refine dr_lit (t := 28) (b := true) rfl ?_ | refine dr_split (t := 28) rfl (fun h => ?_) (fun h => ?_)
    all_goals first | refine dr_cons (g_off rfl rfl rfl rfl rfl) ?_ | refine dr_cons (g_on rfl rfl rfl (op_mv rfl Conv.ol rfl)) ?_
    all_goals first | refine dr_cons (g_off rfl rfl rfl rfl rfl) ?_ | refine dr_cons (g_on rfl rfl rfl (op_call fb92 (.cons rfl (Conv.of rfl) (.nil _)) (chainOk_ct _) (argOk rfl rfl argOk0) rfl rfl)) ?_
    all_goals first | refine dr_cons (g_off rfl rfl rfl rfl rfl) ?_ | refine dr_cons (g_on rfl rfl rfl (op_not rfl rfl)) ?_
    all_goals refine dr_cons (op_pick rfl rfl rfl rfl) ?_
    all_goals refine dr_nil mixed rfl ?_
    all_goals exact Le.mk rfl (tlb rfl rfl rfl (tlb rfl rfl rfl (tlb rfl rfl rfl (tle rfl (rfl) rfl (tle rfl (rfl) rfl (tle rfl (by (clear htip; simp_all)) rfl tln)))))) (olk rfl (by exact obOk_cell) (olk rfl (by exact obOk_cell) (olk rfl (by exact obOk_cell) oln))) noS
  refine awp_cond rfl (fun h => ?_) (fun h => ?_)
  · all_goals refine awp_seq (awp_region (id := 3) ?_)
    all_goals refine awpOps_cons (op_ld ty41 rfl rfl rfl) ?_
    all_goals refine awpOps_cons (op_build (.nil _) z48 rfl pl48 rfl) ?_
    all_goals refine awpOps_cons (op_st ty41 rfl rfl (Conv.of rfl) rfl) ?_
    all_goals refine awpOps_cons (op_st ty48 rfl rfl (Conv.of rfl) rfl) ?_
    all_goals refine awpOps_cons (op_as rfl (Conv.of rfl) rfl) ?_
    all_goals refine awpOps_nil ?_
    refine awp_ret ?_
    repeat first | refine rt_seq ?_ | refine rt_block ?_
    refine finN (.cons (.rc ty41 rfl rfl) (.cons (.rc ty48 rfl rfl) (.cons (.v rfl (Conv.of rfl)) .nil))) rfl rfl ?_
    have h' := not_t h
    rw [proposeF, h']; rfl
  · have h' := not_f h
    refine awp_skip ?_
    all_goals refine awp_seq (awp_region (id := 4) ?_)
    all_goals refine awpOps_cons (op_ld ty41 rfl rfl rfl) ?_
    all_goals refine awpOps_cons (op_mv rfl Conv.ol rfl) ?_
    all_goals refine awpOps_cons (op_call fb153 (.cons rfl (Conv.of rfl) (.cons rfl (Conv.of rfl) (.nil _))) (nvote_ct _ _ hn (by simp; omega)) (argOk rfl rfl (argOk rfl rfl argOk0)) rfl rfl) ?_
    all_goals refine awpOps_cons (op_ext rfl rfl rfl) ?_
    all_goals refine awpOps_cons (op_ext rfl rfl rfl) ?_
    all_goals refine awpOps_cons (op_ext rfl rfl rfl) ?_
    all_goals refine awpOps_cons (op_st ty41 rfl rfl (Conv.of rfl) rfl) ?_
    all_goals refine awpOps_cons (op_st ty48 rfl rfl (Conv.of rfl) rfl) ?_
    all_goals refine awpOps_cons (op_as rfl (Conv.of rfl) rfl) ?_
    all_goals refine awpOps_nil ?_
    refine awp_ret ?_
    repeat first | refine rt_seq ?_ | refine rt_block ?_
    refine finN (.cons (.rc ty41 rfl rfl) (.cons (.rc ty48 rfl rfl) (.cons (.v rfl (Conv.of rfl)) .nil))) rfl rfl ?_
    rw [proposeF, h']; rfl
end Go.Proofs.YtmdhfalfppkpeaaGreat

/- A node hears a vote. -/
set_option linter.unusedVariables false
set_option linter.unusedSimpArgs false
namespace Go.Proofs.YtmdhfalfppkpeaaGreat
open Go Go.Wt
set_option maxHeartbeats 2000000 in
theorem nhear_ct (n : Nod) (v : Vote) (hn : Gd n.seen) : CtP Tryz.prog 106 [.v n, .v v] (res3 (hearF n v)) := by
  refine Ct.intro Tryz.func106 rfl rfl ?_
  all_goals refine awp_seq (awp_region (id := 0) ?_)
  all_goals refine awpOps_cons (op_box (o := 0) ty41 rfl (Conv.of rfl) rfl rfl) ?_
  all_goals refine awpOps_cons (op_box (o := 1) ty48 rfl (Conv.of rfl) rfl rfl) ?_
  all_goals refine awpOps_cons (op_alloc (o := 2) z41 rfl rfl) ?_
  all_goals refine awpOps_cons (op_alloc (o := 3) z48 rfl rfl) ?_
  all_goals refine awpOps_cons (op_as rfl (Conv.of rfl) rfl) ?_
  all_goals refine awpOps_nil ?_
  refine awp_seq (awp_seq_to (s' := mkSt 99 [(2, .box 0 (IsLens.whole Nod)), (3, .box 1 (IsLens.whole Vote)), (4, .box 2 (IsLens.whole Nod)), (5, .box 3 (IsLens.whole Vote)), (6, .v false), (28, .v (!(voteOk v && !decide (v.by_ = n.id) && decide (n.seen.length < 80))))] [(0, .cell n), (1, .cell v), (2, .cell Nod.zero), (3, .cell Vote.zero)]) ?_ ?_)
  · all_goals refine awp_region (id := 1) ?_
    all_goals refine awpOps_cons (op_ld ty48 rfl rfl rfl) ?_
    all_goals refine awpOps_cons (op_call fb51 (.cons rfl (Conv.of rfl) (.nil _)) (voteOk_ct _) (argOk rfl rfl argOk0) rfl rfl) ?_
    all_goals refine awpOps_cons (op_not rfl rfl) ?_
    all_goals refine awpOps_cons (op_mv rfl (Conv.of rfl) rfl) ?_
    all_goals refine g_split (t := 16) rfl (fun h => ?_) (fun h => ?_)
    all_goals first | refine awpOps_cons (g_off rfl rfl rfl rfl rfl) ?_ | refine awpOps_cons (g_on rfl rfl rfl (op_fab f48_0 rfl rfl)) ?_
    all_goals first | refine awpOps_cons (g_off rfl rfl rfl rfl rfl) ?_ | refine awpOps_cons (g_on rfl rfl rfl (op_ld ty3 rfl rfl rfl)) ?_
    all_goals first | refine awpOps_cons (g_off rfl rfl rfl rfl rfl) ?_ | refine awpOps_cons (g_on rfl rfl rfl (op_fab f41_0 rfl rfl)) ?_
    all_goals first | refine awpOps_cons (g_off rfl rfl rfl rfl rfl) ?_ | refine awpOps_cons (g_on rfl rfl rfl (op_ld ty3 rfl rfl rfl)) ?_
    all_goals first | refine awpOps_cons (g_off rfl rfl rfl rfl rfl) ?_ | refine awpOps_cons (g_on rfl rfl rfl (op_eql rfl rfl rfl)) ?_
    all_goals refine awpOps_cons (op_pick rfl rfl rfl rfl) ?_
    all_goals refine awpOps_cons (op_mv rfl (Conv.of rfl) rfl) ?_
    all_goals first | refine g_lit (t := 23) (b := true) rfl ?_ | refine g_split (t := 23) rfl (fun h => ?_) (fun h => ?_)
    all_goals first | refine awpOps_cons (g_off rfl rfl rfl rfl rfl) ?_ | refine awpOps_cons (g_on rfl rfl rfl (op_fab f41_3 rfl rfl)) ?_
    all_goals first | refine awpOps_cons (g_off rfl rfl rfl rfl rfl) ?_ | refine awpOps_cons (g_on rfl rfl rfl (op_ld ty27 rfl rfl rfl)) ?_
    all_goals first | refine awpOps_cons (g_off rfl rfl rfl rfl rfl) ?_ | refine awpOps_cons (g_on rfl rfl rfl (op_len sl27 rfl rfl)) ?_
    all_goals first | refine awpOps_cons (g_off rfl rfl rfl rfl rfl) ?_ | refine awpOps_cons (g_on rfl rfl rfl (op_geq rfl rfl rfl)) ?_
    all_goals refine awpOps_cons (op_pick rfl rfl rfl rfl) ?_
    all_goals refine awpOps_nil ?_
    all_goals exact Le.mk rfl (tlb rfl rfl rfl (tlb rfl rfl rfl (tlb rfl rfl rfl (tlb rfl rfl rfl (tle rfl (rfl) rfl (tle rfl (by (simp_all; try (rw [Bool.eq_iff_iff]; simp; try omega))) rfl tln)))))) (olk rfl (by exact obOk_cell) (olk rfl (by exact obOk_cell) (olk rfl (by exact obOk_cell) (olk rfl (by exact obOk_cell) oln)))) noS
  refine awp_cond rfl (fun h => ?_) (fun h => ?_)
  · all_goals refine awp_seq (awp_region (id := 2) ?_)
    all_goals refine awpOps_cons (op_ld ty41 rfl rfl rfl) ?_
    all_goals refine awpOps_cons (op_build (.nil _) z48 rfl pl48 rfl) ?_
    all_goals refine awpOps_cons (op_st ty41 rfl rfl (Conv.of rfl) rfl) ?_
    all_goals refine awpOps_cons (op_st ty48 rfl rfl (Conv.of rfl) rfl) ?_
    all_goals refine awpOps_cons (op_as rfl (Conv.of rfl) rfl) ?_
    all_goals refine awpOps_nil ?_
    refine awp_ret ?_
    repeat first | refine rt_seq ?_ | refine rt_block ?_
    refine finN (.cons (.rc ty41 rfl rfl) (.cons (.rc ty48 rfl rfl) (.cons (.v rfl (Conv.of rfl)) .nil))) rfl rfl ?_
    rw [hearF, not_t h]; rfl
  · have h0 := not_f h
    refine awp_skip ?_
    have h0' := h0
    simp only [Bool.and_eq_true] at h0'
    have hvo : voteOk v = true := h0'.1.1
    have hlen : n.seen.length < 80 := by simpa using h0'.2
    have hgd := seeF_gd hn hvo hlen
    refine awp_seq_to (s' := mkSt 99 [(2, .box 0 (IsLens.whole Nod)), (4, .box 2 (IsLens.whole Nod)), (5, .box 3 (IsLens.whole Vote)), (6, .v false)] [(0, .cell (seeF n v)), (2, .cell Nod.zero), (3, .cell Vote.zero)]) ?_ ?_
    · all_goals refine awp_seq (awp_region (id := 3) ?_)
      all_goals refine awpOps_cons (op_fab f41_3 rfl rfl) ?_
      all_goals refine awpOps_cons (op_ld ty27 rfl rfl rfl) ?_
      all_goals refine awpOps_cons (op_ld ty48 rfl rfl rfl) ?_
      all_goals refine awpOps_cons (op_call fb120 (.cons rfl (Conv.of rfl) (.cons rfl (Conv.of rfl) (.nil _))) (has_ct _ _) (argOk rfl rfl (argOk rfl rfl argOk0)) rfl rfl) ?_
      all_goals refine awpOps_cons (op_not rfl rfl) ?_
      all_goals refine awpOps_nil ?_
      refine awp_cond rfl (fun hb => ?_) (fun hb => ?_)
      · have hb' : ¬ v ∈ n.seen := by simpa using hb
        all_goals refine awp_region (id := 4) ?_
        all_goals refine awpOps_cons (op_fab f41_3 rfl rfl) ?_
        all_goals refine awpOps_cons (op_ld ty27 rfl rfl rfl) ?_
        all_goals refine awpOps_cons (op_ld ty48 rfl rfl rfl) ?_
        all_goals refine awpOps_cons (op_call fb150 (.cons rfl (Conv.of rfl) (.cons rfl (Conv.of rfl) (.nil _))) (with_ct _ _ hn.l' (voteOk_len hvo)) (argOk rfl rfl (argOk rfl rfl argOk0)) rfl rfl) ?_
        all_goals refine awpOps_cons (op_fab f41_3 rfl rfl) ?_
        all_goals refine awpOps_cons (op_st ty27 rfl rfl (Conv.cl) rfl) ?_
        all_goals refine awpOps_nil ?_
        all_goals exact Le.mk rfl (tlb rfl rfl rfl (tlb rfl rfl rfl (tlb rfl rfl rfl (tle rfl (rfl) rfl tln)))) (olk (by (simp [seeF, *]; try rfl)) (by exact obOk_cell) (olk rfl (by exact obOk_cell) (olk rfl (by exact obOk_cell) oln))) noS
      · have hb' : v ∈ n.seen := by simpa using hb
        refine awp_skip ?_
        all_goals exact Le.mk rfl (tlb rfl rfl rfl (tlb rfl rfl rfl (tlb rfl rfl rfl (tle rfl (rfl) rfl tln)))) (olk (by (simp [seeF, *]; try rfl)) (by exact obOk_cell) (olk rfl (by exact obOk_cell) (olk rfl (by exact obOk_cell) oln))) noS
    · generalize hm : seeF n v = m at *
      all_goals refine awp_seq (awp_seq (awp_region (id := 5) ?_))
      all_goals refine awpOps_cons (op_ld ty41 rfl rfl rfl) ?_
      all_goals refine awpOps_cons (op_call fb151 (.cons rfl (Conv.of rfl) (.nil _)) (may_ct _) (argOk rfl rfl argOk0) rfl rfl) ?_
      all_goals refine awpOps_cons (op_not rfl rfl) ?_
      all_goals refine awpOps_nil ?_
      refine awp_cond rfl (fun hb => ?_) (fun hb => ?_)
      · all_goals refine awp_seq (awp_region (id := 6) ?_)
        all_goals refine awpOps_cons (op_ld ty41 rfl rfl rfl) ?_
        all_goals refine awpOps_cons (op_build (.nil _) z48 rfl pl48 rfl) ?_
        all_goals refine awpOps_cons (op_st ty41 rfl rfl (Conv.of rfl) rfl) ?_
        all_goals refine awpOps_cons (op_st ty48 rfl rfl (Conv.of rfl) rfl) ?_
        all_goals refine awpOps_cons (op_as rfl (Conv.of rfl) rfl) ?_
        all_goals refine awpOps_nil ?_
        refine awp_ret ?_
        repeat first | refine rt_seq ?_ | refine rt_block ?_
        refine finN (.cons (.rc ty41 rfl rfl) (.cons (.rc ty48 rfl rfl) (.cons (.v rfl (Conv.of rfl)) .nil))) rfl rfl ?_
        rw [hearF, h0, hm, not_t hb]; rfl
      · have hres : hearF n v = tryF m m.seen := by rw [hearF, h0, hm, not_f hb]; rfl
        rw [hres]
        refine awp_skip ?_
        all_goals refine awp_seq (awp_region (id := 7) ?_)
        all_goals refine awpOps_cons (op_fab f41_3 rfl rfl) ?_
        all_goals refine awpOps_cons (op_ld ty27 rfl rfl rfl) ?_
        all_goals refine awpOps_cons (op_as rfl (Conv.of rfl) rfl) ?_
        all_goals refine awpOps_nil ?_
        all_goals refine awp_seq (dr_start (id := 8) ?_)
        all_goals refine dr_cons (op_mv rfl (Conv.of rfl) rfl) ?_
        all_goals refine dr_cons (op_call fb108 (.cons rfl (Conv.of rfl) (.nil _)) (tip_ct _ hgd.l hgd.v) (argOk rfl rfl argOk0) rfl rfl) ?_
        all_goals refine dr_cons (op_len sl34 rfl rfl) ?_
        all_goals refine dr_cons (op_fab f41_1 rfl rfl) ?_
        all_goals refine dr_cons (op_ld ty3 rfl rfl rfl) ?_
        all_goals refine dr_cons (op_call fb127 (.cons rfl (Conv.of rfl) (.nil _)) (leader_ct _) (argOk rfl rfl argOk0) rfl rfl) ?_
        all_goals refine dr_cons (op_as rfl (Conv.of rfl) rfl) ?_
        all_goals refine dr_cons (op_as rfl (Conv.of rfl) rfl) ?_
        all_goals refine dr_nil mixed rfl ?_
        all_goals refine awp_seq (awp_seq (awp_region (id := 9) ?_))
        all_goals refine awpOps_cons (op_mv rfl (Conv.of rfl) rfl) ?_
        all_goals refine awpOps_cons (op_len sl93 rfl rfl) ?_
        all_goals refine awpOps_cons (op_mv rfl (Conv.of rfl) rfl) ?_
        all_goals refine awpOps_nil ?_
        refine awp_block ?_
        refine awp_loop' (fun n_ s => ∃ (k : Nat), ∃ (hn : n_ + k = m.seen.length), ∃ (hall : tryF m m.seen = tryF m (m.seen.drop k)), s = mkSt 99 [(2, .box 0 (IsLens.whole Nod)), (4, .box 2 (IsLens.whole Nod)), (5, .box 3 (IsLens.whole Vote)), (6, .v false), (7, .v m.seen), (8, .v ((tipOf m.seen).length : Int)), (9, .v (leader m.epoch)), (54, .v m.seen), (55, .v (m.seen.length : Int)), (56, .v (k : Int))] [(0, .cell m), (2, .cell Nod.zero), (3, .cell Vote.zero)]) (m.seen.length) ⟨0, by omega, rfl, rfl⟩ (Le.mk rfl (tlb rfl rfl rfl (tlb rfl rfl rfl (tlb rfl rfl rfl (tle rfl (rfl) rfl (tle rfl (rfl) rfl (tle rfl (rfl) rfl (tle rfl (rfl) rfl (tle rfl (rfl) rfl (tle rfl (rfl) rfl (tle rfl (rfl) rfl tln)))))))))) (olk rfl (by exact obOk_cell) (olk rfl (by exact obOk_cell) (olk rfl (by exact obOk_cell) oln))) noS) ?_
        rintro n_ s ⟨k, hn, hall, rfl⟩
        have hml := hgd.len
        all_goals refine awp_seq (awp_region (id := 10) ?_)
        all_goals refine awpOps_cons (op_lss rfl rfl rfl) ?_
        all_goals refine awpOps_nil ?_
        refine awp_seq (awp_cond rfl (fun h => ?_) (fun h => ?_))
        · have hlt : k < m.seen.length := by simpa using h
          have hx : m.seen[k]? = some m.seen[k] := List.getElem?_eq_getElem hlt
          have huo := hgd.ok _ (List.getElem_mem hlt)
          have hup := voteOk_pos huo
          have hul := voteOk_len huo
          have hs := tryF_drop m hx
          refine awp_skip ?_
          refine awp_seq (awp_block ?_)
          all_goals refine awp_seq (awp_region (id := 11) ?_)
          all_goals refine awpOps_cons (op_ix sl93 rfl rfl rfl (by omega) hx) ?_
          all_goals refine awpOps_cons (op_ldr ty48 rfl rfl) ?_
          all_goals refine awpOps_cons (op_alloc (o := 4) z48 rfl rfl) ?_
          all_goals refine awpOps_cons (op_st ty48 rfl rfl (Conv.of rfl) rfl) ?_
          all_goals refine awpOps_nil ?_
          all_goals refine awp_seq (awp_region (id := 12) ?_)
          all_goals refine awpOps_cons (op_fab f48_1 rfl rfl) ?_
          all_goals refine awpOps_cons (op_ld ty34 rfl rfl rfl) ?_
          all_goals refine awpOps_cons (op_fab f48_1 rfl rfl) ?_
          all_goals refine awpOps_cons (op_ld ty34 rfl rfl rfl) ?_
          all_goals refine awpOps_cons (op_len sl34 rfl rfl) ?_
          all_goals refine awpOps_cons (op_sub rfl rfl rfl (by omega)) ?_
          all_goals refine awpOps_cons (op_slh sl34 rfl rfl rfl ⟨by omega, by omega⟩) ?_
          all_goals refine awpOps_cons (op_as rfl (Conv.of rfl) rfl) ?_
          all_goals refine awpOps_nil ?_
          have htk : (((m.seen[k]).chain.length : Int) - 1).toNat = (m.seen[k]).chain.length - 1 := by omega
          refine awp_seq_to (s' := mkSt 99 [(2, .box 0 (IsLens.whole Nod)), (4, .box 2 (IsLens.whole Nod)), (5, .box 3 (IsLens.whole Vote)), (6, .v false), (7, .v m.seen), (8, .v ((tipOf m.seen).length : Int)), (9, .v (leader m.epoch)), (11, .box 4 (IsLens.whole Vote)), (54, .v m.seen), (55, .v (m.seen.length : Int)), (56, .v (k : Int)), (88, .v (fits m m.seen[k]))] [(0, .cell m), (2, .cell Nod.zero), (3, .cell Vote.zero), (4, .cell m.seen[k])]) ?_ ?_
          · all_goals refine dr_start (id := 13) ?_
            all_goals refine dr_cons (op_fab f48_0 rfl rfl) ?_
            all_goals refine dr_cons (op_ld ty3 rfl rfl rfl) ?_
            all_goals refine dr_cons (op_mv rfl (Conv.of rfl) rfl) ?_
            all_goals refine dr_cons (op_eql rfl rfl rfl) ?_
            all_goals refine dr_cons (op_mv rfl (Conv.of rfl) rfl) ?_
            all_goals refine dr_split (t := 71) rfl (fun h => ?_) (fun h => ?_)
            all_goals first | refine dr_cons (g_off rfl rfl rfl rfl rfl) ?_ | refine dr_cons (g_on rfl rfl rfl (op_ld ty48 rfl rfl rfl)) ?_
            all_goals first | refine dr_cons (g_off rfl rfl rfl rfl rfl) ?_ | refine dr_cons (g_on rfl rfl rfl (op_call fb134 (.cons rfl (Conv.of rfl) (.nil _)) (last_ct _ hup) (argOk rfl rfl argOk0) rfl rfl)) ?_
            all_goals first | refine dr_cons (g_off rfl rfl rfl rfl rfl) ?_ | refine dr_cons (g_on rfl rfl rfl (op_fab f41_1 rfl rfl)) ?_
            all_goals first | refine dr_cons (g_off rfl rfl rfl rfl rfl) ?_ | refine dr_cons (g_on rfl rfl rfl (op_ld ty3 rfl rfl rfl)) ?_
            all_goals first | refine dr_cons (g_off rfl rfl rfl rfl rfl) ?_ | refine dr_cons (g_on rfl rfl rfl (op_eql rfl rfl rfl)) ?_
            all_goals refine dr_cons (op_pick rfl rfl rfl rfl) ?_
            all_goals refine dr_cons (op_mv rfl (Conv.of rfl) rfl) ?_
            all_goals first | refine dr_lit (t := 78) (b := false) rfl ?_ | refine dr_split (t := 78) rfl (fun h => ?_) (fun h => ?_)
            all_goals first | refine dr_cons (g_off rfl rfl rfl rfl rfl) ?_ | refine dr_cons (g_on rfl rfl rfl (op_mv rfl (Conv.of rfl) rfl)) ?_
            all_goals first | refine dr_cons (g_off rfl rfl rfl rfl rfl) ?_ | refine dr_cons (g_on rfl rfl rfl (op_len sl34 rfl rfl)) ?_
            all_goals first | refine dr_cons (g_off rfl rfl rfl rfl rfl) ?_ | refine dr_cons (g_on rfl rfl rfl (op_mv rfl (Conv.of rfl) rfl)) ?_
            all_goals first | refine dr_cons (g_off rfl rfl rfl rfl rfl) ?_ | refine dr_cons (g_on rfl rfl rfl (op_eql rfl rfl rfl)) ?_
            all_goals refine dr_cons (op_pick rfl rfl rfl rfl) ?_
            all_goals refine dr_cons (op_mv rfl (Conv.of rfl) rfl) ?_
            all_goals first | refine dr_lit (t := 84) (b := false) rfl ?_ | refine dr_split (t := 84) rfl (fun h => ?_) (fun h => ?_)
            all_goals first | refine dr_cons (g_off rfl rfl rfl rfl rfl) ?_ | refine dr_cons (g_on rfl rfl rfl (op_mv rfl (Conv.of rfl) rfl)) ?_
            all_goals first | refine dr_cons (g_off rfl rfl rfl rfl rfl) ?_ | refine dr_cons (g_on rfl rfl rfl (op_mv rfl (Conv.of rfl) rfl)) ?_
            all_goals first | refine dr_cons (g_off rfl rfl rfl rfl rfl) ?_ | refine dr_cons (g_on rfl rfl rfl (op_call fb152 (.cons rfl (Conv.of rfl) (.cons rfl (Conv.of rfl) (.nil _))) (sure_ct _ _) (argOk rfl rfl (argOk rfl rfl argOk0)) rfl rfl)) ?_
            all_goals refine dr_cons (op_pick rfl rfl rfl rfl) ?_
            all_goals refine dr_nil mixed rfl ?_
            all_goals exact Le.mk rfl (tlb rfl rfl rfl (tlb rfl rfl rfl (tlb rfl rfl rfl (tle rfl (rfl) rfl (tle rfl (rfl) rfl (tle rfl (rfl) rfl (tle rfl (rfl) rfl (tlb rfl rfl rfl (tle rfl (rfl) rfl (tle rfl (rfl) rfl (tle rfl (rfl) rfl (tle rfl (by (show AV.v _ = AV.v _; congr 1; rw [fits_alt hup]; clear hall hs hres; simp_all)) rfl tln)))))))))))) (olk rfl (by exact obOk_cell) (olk rfl (by exact obOk_cell) (olk rfl (by exact obOk_cell) (olk rfl (by exact obOk_cell) oln)))) noS
          refine awp_cond rfl (fun hb => ?_) (fun hb => ?_)
          · all_goals refine awp_seq (awp_region (id := 14) ?_)
            all_goals refine awpOps_cons (op_ld ty41 rfl rfl rfl) ?_
            all_goals refine awpOps_cons (op_fab f48_1 rfl rfl) ?_
            all_goals refine awpOps_cons (op_ld ty34 rfl rfl rfl) ?_
            all_goals refine awpOps_cons (op_call fb153 (.cons rfl (Conv.of rfl) (.cons rfl (Conv.of rfl) (.nil _))) (nvote_ct _ _ hgd hul) (argOk rfl rfl (argOk rfl rfl argOk0)) rfl rfl) ?_
            all_goals refine awpOps_cons (op_ext rfl rfl rfl) ?_
            all_goals refine awpOps_cons (op_ext rfl rfl rfl) ?_
            all_goals refine awpOps_cons (op_ext rfl rfl rfl) ?_
            all_goals refine awpOps_cons (op_st ty41 rfl rfl (Conv.of rfl) rfl) ?_
            all_goals refine awpOps_cons (op_st ty48 rfl rfl (Conv.of rfl) rfl) ?_
            all_goals refine awpOps_cons (op_as rfl (Conv.of rfl) rfl) ?_
            all_goals refine awpOps_nil ?_
            refine awp_ret ?_
            repeat first | refine rt_seq ?_ | refine rt_block ?_
            refine finN (.cons (.rc ty41 rfl rfl) (.cons (.rc ty48 rfl rfl) (.cons (.v rfl (Conv.of rfl)) .nil))) rfl rfl ?_
            rw [hall, hs, hb]; rfl
          · refine awp_skip ?_
            all_goals refine awp_region (id := 15) ?_
            all_goals refine awpOps_cons (op_add rfl rfl rfl (by omega)) ?_
            all_goals refine awpOps_cons (op_mv rfl (Conv.of rfl) rfl) ?_
            all_goals refine awpOps_nil ?_
            repeat first | refine nx_seq ?_ | refine nx_block ?_
            exact ⟨n_ - 1, _, by omega, ⟨k + 1, by omega, by rw [hall, hs, hb]; rfl, rfl⟩, Le.mk rfl (tlb rfl rfl rfl (tlb rfl rfl rfl (tlb rfl rfl rfl (tle rfl (rfl) rfl (tle rfl (rfl) rfl (tle rfl (rfl) rfl (tle rfl (rfl) rfl (tle rfl (rfl) rfl (tle rfl (rfl) rfl (tle rfl (rfl) rfl tln)))))))))) (olk rfl (by exact obOk_cell) (olk rfl (by exact obOk_cell) (olk rfl (by exact obOk_cell) oln))) noS⟩
        · refine awp_exit ?_
          repeat refine ex_seq ?_
          refine ex_block ?_
          have hk : m.seen.length ≤ k := by simpa using h
          all_goals refine awp_seq (awp_region (id := 16) ?_)
          all_goals refine awpOps_cons (op_ld ty41 rfl rfl rfl) ?_
          all_goals refine awpOps_cons (op_build (.nil _) z48 rfl pl48 rfl) ?_
          all_goals refine awpOps_cons (op_st ty41 rfl rfl (Conv.of rfl) rfl) ?_
          all_goals refine awpOps_cons (op_st ty48 rfl rfl (Conv.of rfl) rfl) ?_
          all_goals refine awpOps_cons (op_as rfl (Conv.of rfl) rfl) ?_
          all_goals refine awpOps_nil ?_
          refine awp_ret ?_
          repeat first | refine rt_seq ?_ | refine rt_block ?_
          refine finN (.cons (.rc ty41 rfl rfl) (.cons (.rc ty48 rfl rfl) (.cons (.v rfl (Conv.of rfl)) .nil))) rfl rfl ?_
          rw [hall, drop_end hk]; rfl
end Go.Proofs.YtmdhfalfppkpeaaGreat

/- Worlds. -/
set_option linter.unusedVariables false
set_option linter.unusedSimpArgs false
namespace Go.Proofs.YtmdhfalfppkpeaaGreat
open Go Go.Wt
theorem send_ct (w : Wrld) (v : Vote) (hl : Gd w.log) (hv : v.chain.length ≤ 1000000) : CtO Tryz.prog 114 [.box 0 (IsLens.whole WrldA), .v v] (wo w) (.tup []) (wo (sendF w v)) := by
  refine Ct.intro Tryz.func114 rfl rfl ?_
  all_goals refine awp_seq (awp_region (id := 0) ?_)
  all_goals refine awpOps_cons (op_box (o := 2) ty48 rfl (Conv.of rfl) rfl rfl) ?_
  all_goals refine awpOps_nil ?_
  refine awp_seq_to (s' := mkSt 28 [(0, .box 0 (IsLens.whole WrldA)), (3, .box 2 (IsLens.whole Vote)), (18, .v (!decide (v ∈ w.log) && decide (w.log.length < 80)))] [(0, .cell (wA w)), (1, .arr w.nodes), (2, .cell v)]) ?_ ?_
  · all_goals refine dr_start (id := 1) ?_
    all_goals refine dr_cons (op_mv rfl (Conv.of rfl) rfl) ?_
    all_goals refine dr_cons (op_nilc_box rfl rfl) ?_
    all_goals refine dr_cons (op_fab f29_2_WrldA rfl rfl) ?_
    all_goals refine dr_cons (op_ld ty27 rfl rfl rfl) ?_
    all_goals refine dr_cons (op_ld ty48 rfl rfl rfl) ?_
    all_goals refine dr_cons (op_call fb120 (.cons rfl (Conv.of rfl) (.cons rfl (Conv.of rfl) (.nil _))) (has_ct _ _) (argOk rfl rfl (argOk rfl rfl argOk0)) rfl rfl) ?_
    all_goals refine dr_cons (op_not rfl rfl) ?_
    all_goals refine dr_cons (op_mv rfl (Conv.of rfl) rfl) ?_
    all_goals refine dr_split (t := 11) rfl (fun h => ?_) (fun h => ?_)
    all_goals first | refine dr_cons (g_off rfl rfl rfl rfl rfl) ?_ | refine dr_cons (g_on rfl rfl rfl (op_mv rfl (Conv.of rfl) rfl)) ?_
    all_goals first | refine dr_cons (g_off rfl rfl rfl rfl rfl) ?_ | refine dr_cons (g_on rfl rfl rfl (op_nilc_box rfl rfl)) ?_
    all_goals first | refine dr_cons (g_off rfl rfl rfl rfl rfl) ?_ | refine dr_cons (g_on rfl rfl rfl (op_fab f29_2_WrldA rfl rfl)) ?_
    all_goals first | refine dr_cons (g_off rfl rfl rfl rfl rfl) ?_ | refine dr_cons (g_on rfl rfl rfl (op_ld ty27 rfl rfl rfl)) ?_
    all_goals first | refine dr_cons (g_off rfl rfl rfl rfl rfl) ?_ | refine dr_cons (g_on rfl rfl rfl (op_len sl27 rfl rfl)) ?_
    all_goals first | refine dr_cons (g_off rfl rfl rfl rfl rfl) ?_ | refine dr_cons (g_on rfl rfl rfl (op_lss rfl rfl rfl)) ?_
    all_goals refine dr_cons (op_pick rfl rfl rfl rfl) ?_
    all_goals refine dr_nil mixed rfl ?_
    all_goals exact Le.mk rfl (tlb rfl rfl rfl (tlb rfl rfl rfl (tle rfl (by (simp_all; try omega)) rfl tln))) (olk rfl (by exact obOkW rfl) (olk rfl (by exact obOk_arr) (olk rfl (by exact obOk_cell) oln))) (hS_sub (a := wo w) rfl)
  refine awp_cond rfl (fun h => ?_) (fun h => ?_)
  · all_goals refine dr_start (id := 2) ?_
    all_goals refine dr_cons (op_mv rfl (Conv.of rfl) rfl) ?_
    all_goals refine dr_cons (op_mv rfl (Conv.of rfl) rfl) ?_
    all_goals refine dr_cons (op_nilc_box rfl rfl) ?_
    all_goals refine dr_cons (op_fab f29_2_WrldA rfl rfl) ?_
    all_goals refine dr_cons (op_ld ty27 rfl rfl rfl) ?_
    all_goals refine dr_cons (op_ld ty48 rfl rfl rfl) ?_
    all_goals refine dr_cons (op_call fb150 (.cons rfl (Conv.of rfl) (.cons rfl (Conv.of rfl) (.nil _))) (with_ct _ _ hl.l' hv) (argOk rfl rfl (argOk rfl rfl argOk0)) rfl rfl) ?_
    all_goals refine dr_cons (op_nilc_box rfl rfl) ?_
    all_goals refine dr_cons (op_fab f29_2_WrldA rfl rfl) ?_
    all_goals refine dr_cons (op_st ty27 rfl rfl (Conv.cl) rfl) ?_
    all_goals refine dr_nil mixed rfl ?_
    refine finO (wo (sendF w v)) .nil rfl (fun o ho => by cases ho) ?_ (hS_keys rfl) rfl
    simp only [sendF, h, if_true]
    exact (olk rfl (obOkW rfl) (olk rfl obOk_arr oln))
  · refine awp_skip ?_
    refine finO (wo (sendF w v)) .nil rfl (fun o ho => by cases ho) ?_ (hS_keys rfl) rfl
    simp only [sendF, h]
    exact (olk rfl (obOkW rfl) (olk rfl obOk_arr oln))
theorem honest_ct (w : Wrld) (id : Int) (h4 : w.nodes.length = 4) : CtO Tryz.prog 155 [.box 0 (IsLens.whole WrldA), .v id] (wo w) (if honestB w id then .elm 1 (id - 1).toNat (IsLens.whole Nod) else .nilp) (wo w) := by
  refine Ct.intro Tryz.func155 rfl rfl ?_
  all_goals refine awp_seq (awp_region (id := 0) ?_)
  all_goals refine awpOps_cons (op_as rfl (Conv.of rfl) rfl) ?_
  all_goals refine awpOps_nil ?_
  refine awp_seq (awp_seq_to (s' := mkSt 31 [(0, .box 0 (IsLens.whole WrldA)), (1, .v id), (23, .v (!honestB w id))] [(0, .cell (wA w)), (1, .arr w.nodes)]) ?_ ?_)
  · all_goals refine awp_region (id := 1) ?_
    all_goals refine awpOps_cons (op_mv rfl (Conv.of rfl) rfl) ?_
    all_goals refine awpOps_cons (op_call fb110 (.cons rfl (Conv.of rfl) (.nil _)) (nodeIdOk_ct _) (argOk rfl rfl argOk0) rfl rfl) ?_
    all_goals refine awpOps_cons (op_not rfl rfl) ?_
    all_goals refine awpOps_cons (op_mv rfl (Conv.of rfl) rfl) ?_
    all_goals refine g_split (t := 8) rfl (fun h => ?_) (fun h => ?_)
    all_goals first | refine awpOps_cons (g_off rfl rfl rfl rfl rfl) ?_ | refine awpOps_cons (g_on rfl rfl rfl (op_mv rfl (Conv.of rfl) rfl)) ?_
    all_goals first | refine awpOps_cons (g_off rfl rfl rfl rfl rfl) ?_ | refine awpOps_cons (g_on rfl rfl rfl (op_mv rfl (Conv.of rfl) rfl)) ?_
    all_goals first | refine awpOps_cons (g_off rfl rfl rfl rfl rfl) ?_ | refine awpOps_cons (g_on rfl rfl rfl (op_nilc_box rfl rfl)) ?_
    all_goals first | refine awpOps_cons (g_off rfl rfl rfl rfl rfl) ?_ | refine awpOps_cons (g_on rfl rfl rfl (op_fab f29_3_WrldA rfl rfl)) ?_
    all_goals first | refine awpOps_cons (g_off rfl rfl rfl rfl rfl) ?_ | refine awpOps_cons (g_on rfl rfl rfl (op_ld ty3 rfl rfl rfl)) ?_
    all_goals first | refine awpOps_cons (g_off rfl rfl rfl rfl rfl) ?_ | refine awpOps_cons (g_on rfl rfl rfl (op_eql rfl rfl rfl)) ?_
    all_goals refine awpOps_cons (op_pick rfl rfl rfl rfl) ?_
    all_goals refine awpOps_cons (op_mv rfl (Conv.of rfl) rfl) ?_
    all_goals first | refine g_lit (t := 16) (b := true) rfl ?_ | refine g_split (t := 16) rfl (fun h => ?_) (fun h => ?_)
    all_goals first | refine awpOps_cons (g_off rfl rfl rfl rfl rfl) ?_ | refine awpOps_cons (g_on rfl rfl rfl (op_mv rfl (Conv.of rfl) rfl)) ?_
    all_goals first | refine awpOps_cons (g_off rfl rfl rfl rfl rfl) ?_ | refine awpOps_cons (g_on rfl rfl rfl (op_nilc_box rfl rfl)) ?_
    all_goals first | refine awpOps_cons (g_off rfl rfl rfl rfl rfl) ?_ | refine awpOps_cons (g_on rfl rfl rfl (op_fab f29_2_WrldA rfl rfl)) ?_
    all_goals first | refine awpOps_cons (g_off rfl rfl rfl rfl rfl) ?_ | refine awpOps_cons (g_on rfl rfl rfl (op_ld ty27 rfl rfl rfl)) ?_
    all_goals first | refine awpOps_cons (g_off rfl rfl rfl rfl rfl) ?_ | refine awpOps_cons (g_on rfl rfl rfl (op_len sl27 rfl rfl)) ?_
    all_goals first | refine awpOps_cons (g_off rfl rfl rfl rfl rfl) ?_ | refine awpOps_cons (g_on rfl rfl rfl (op_geq rfl rfl rfl)) ?_
    all_goals refine awpOps_cons (op_pick rfl rfl rfl rfl) ?_
    all_goals refine awpOps_nil ?_
    all_goals exact Le.mk rfl (tlb rfl rfl rfl (tle rfl (rfl) rfl (tle rfl (by (simp_all [honestB]; try (rw [Bool.eq_iff_iff]; simp; try omega))) rfl tln))) (olk rfl (by exact obOkW rfl) (olk rfl (by exact obOk_arr) oln)) (hS_sub (a := wo w) rfl)
  refine awp_cond rfl (fun h => ?_) (fun h => ?_)
  · all_goals refine awp_seq (awp_region (id := 2) ?_)
    all_goals refine awpOps_cons (op_as rfl (Conv.of rfl) rfl) ?_
    all_goals refine awpOps_nil ?_
    refine awp_ret ?_
    repeat first | refine rt_seq ?_ | refine rt_block ?_
    rw [not_t h]
    exact ⟨_, _, res1E (wo w) rfl rfl rfl (olk rfl (obOkW rfl) (olk rfl obOk_arr oln)) (hS_keys rfl), rfl, rfl⟩
  · have h' := not_f h
    have hid : 1 ≤ id ∧ id ≤ 4 := by simp only [honestB, Bool.and_eq_true] at h'; simpa [within] using h'.1.1
    refine awp_skip ?_
    all_goals refine awp_seq (awp_region (id := 3) ?_)
    all_goals refine awpOps_cons (op_mv rfl (Conv.of rfl) rfl) ?_
    all_goals refine awpOps_cons (op_nilc_box rfl rfl) ?_
    all_goals refine awpOps_cons (op_fab f29_1_WrldA rfl rfl) ?_
    all_goals refine awpOps_cons (op_ld ty26_NRef rfl rfl rfl) ?_
    all_goals refine awpOps_cons (op_mv rfl (Conv.of rfl) rfl) ?_
    all_goals refine awpOps_cons (op_sub rfl rfl rfl (by omega)) ?_
    all_goals refine awpOps_cons (op_ixA sl26 rfl rfl rfl rfl ⟨by omega, by omega⟩) ?_
    all_goals refine awpOps_cons (op_as rfl (Conv.of rfl) rfl) ?_
    all_goals refine awpOps_nil ?_
    refine awp_ret ?_
    repeat first | refine rt_seq ?_ | refine rt_block ?_
    rw [h']
    exact ⟨_, _, res1E (wo w) rfl rfl rfl (olk rfl (obOkW rfl) (olk rfl obOk_arr oln)) (hS_keys rfl), rfl, rfl⟩
theorem tick_ct (w : Wrld) (hw : Fine w) : CtO Tryz.prog 111 [.box 0 (IsLens.whole WrldA)] (wo w) (.tup []) (wo (tickF w)) := by
  have hep := hw.ep
  have h4 := hw.four
  refine Ct.intro Tryz.func111 rfl rfl ?_
  all_goals refine awp_seq (awp_region (id := 0) ?_)
  all_goals refine awpOps_cons (op_mv rfl (Conv.of rfl) rfl) ?_
  all_goals refine awpOps_cons (op_mv rfl (Conv.of rfl) rfl) ?_
  all_goals refine awpOps_cons (op_nilc_box rfl rfl) ?_
  all_goals refine awpOps_cons (op_fab f29_0_WrldA rfl rfl) ?_
  all_goals refine awpOps_cons (op_ld ty3 rfl rfl rfl) ?_
  all_goals refine awpOps_cons (op_add rfl rfl rfl (by ((try simp only [wA]); omega))) ?_
  all_goals refine awpOps_cons (op_min rfl rfl rfl) ?_
  all_goals refine awpOps_cons (op_nilc_box rfl rfl) ?_
  all_goals refine awpOps_cons (op_fab f29_0_WrldA rfl rfl) ?_
  all_goals refine awpOps_cons (op_st ty3 rfl rfl (Conv.of rfl) rfl) ?_
  all_goals refine awpOps_nil ?_
  all_goals refine awp_seq (awp_region (id := 1) ?_)
  all_goals refine awpOps_cons (op_mv rfl (Conv.of rfl) rfl) ?_
  all_goals refine awpOps_cons (op_nilc_box rfl rfl) ?_
  all_goals refine awpOps_cons (op_fab f29_1_WrldA rfl rfl) ?_
  all_goals refine awpOps_cons (op_ld ty26_NRef rfl rfl rfl) ?_
  all_goals refine awpOps_cons (op_lenA sl26 rfl rfl rfl) ?_
  all_goals refine awpOps_cons (op_mv rfl (Conv.of rfl) rfl) ?_
  all_goals refine awpOps_nil ?_
  refine awp_block ?_
  refine awp_loop' (fun n s => ∃ (k : Nat), ∃ (hn : n + k = 4), s = mkSt 36 [(0, .box 0 (IsLens.whole WrldA)), (16, .v (NRef.ref 1)), (17, .v (4 : Int)), (18, .v (k : Int))] [(0, .cell (wA (tickF w))), (1, .arr ((w.nodes.take k).map (fun n => enterF n (min (w.epoch + 1) 30)) ++ w.nodes.drop k))]) (4) ⟨0, by omega, rfl⟩ (Le.mk rfl (tlb rfl rfl rfl (tlb rfl rfl rfl (tle rfl (by (rw [h4]; rfl)) rfl (tle rfl (rfl) rfl tln)))) (olk rfl (by exact obOkW rfl) (olk (by rfl) (by exact obOk_arr) oln)) (hS_sub (a := wo w) rfl)) ?_
  rintro n s ⟨k, hn, rfl⟩
  have hlen : ((w.nodes.take k).map (fun n => enterF n (min (w.epoch + 1) 30)) ++ w.nodes.drop k).length = 4 := by simp; omega
  all_goals refine awp_seq (awp_region (id := 2) ?_)
  all_goals refine awpOps_cons (op_lss rfl rfl rfl) ?_
  all_goals refine awpOps_nil ?_
  refine awp_seq (awp_cond rfl (fun h => ?_) (fun h => ?_))
  · have hlt : k < 4 := by simp at h; omega
    have hx : w.nodes[k]? = some w.nodes[k] := List.getElem?_eq_getElem (by omega)
    have hx' : ((w.nodes.take k).map (fun n => enterF n (min (w.epoch + 1) 30)) ++ w.nodes.drop k)[(k : Int).toNat]? = some w.nodes[k] := by
      rw [List.getElem?_append_right (by simp; omega)]
      simp [Nat.min_eq_left (show k ≤ w.nodes.length by omega), hx]
    have hne := hw.nep _ (List.getElem_mem (show k < w.nodes.length by omega))
    refine awp_skip ?_
    refine awp_seq (awp_block ?_)
    all_goals refine awp_seq (awp_region (id := 3) ?_)
    all_goals refine awpOps_cons (op_mv rfl (Conv.of rfl) rfl) ?_
    all_goals refine awpOps_cons (op_ixA sl26 rfl rfl rfl rfl ⟨by omega, by omega⟩) ?_
    all_goals refine awpOps_cons (op_lde ty41 rfl rfl hx' rfl) ?_
    all_goals refine awpOps_cons (op_alloc (o := 2) z41 rfl rfl) ?_
    all_goals refine awpOps_cons (op_as rfl (Conv.of rfl) rfl) ?_
    all_goals refine awpOps_cons (op_st ty41 rfl rfl (Conv.of rfl) rfl) ?_
    all_goals refine awpOps_nil ?_
    all_goals refine dr_start (id := 4) ?_
    all_goals refine dr_cons (op_mv rfl (Conv.of rfl) rfl) ?_
    all_goals refine dr_cons (op_nilc_box rfl rfl) ?_
    all_goals refine dr_cons (op_fab f29_1_WrldA rfl rfl) ?_
    all_goals refine dr_cons (op_ld ty26_NRef rfl rfl rfl) ?_
    all_goals refine dr_cons (op_mv rfl (Conv.of rfl) rfl) ?_
    all_goals refine dr_cons (op_ld ty41 rfl rfl rfl) ?_
    all_goals refine dr_cons (op_mv rfl (Conv.of rfl) rfl) ?_
    all_goals refine dr_cons (op_nilc_box rfl rfl) ?_
    all_goals refine dr_cons (op_fab f29_0_WrldA rfl rfl) ?_
    all_goals refine dr_cons (op_ld ty3 rfl rfl rfl) ?_
    all_goals refine dr_cons (op_call fb107 (.cons rfl (Conv.of rfl) (.cons rfl (Conv.of rfl) (.nil _))) (enter_ct _ _ hne) (argOk rfl rfl (argOk rfl rfl argOk0)) rfl rfl) ?_
    all_goals refine dr_cons (op_ixA sl26 rfl rfl rfl rfl ⟨by omega, by omega⟩) ?_
    all_goals refine dr_cons (op_ste ty41 rfl rfl (Conv.of rfl) rfl hx') ?_
    all_goals refine dr_nil mixed rfl ?_
    all_goals refine awp_region (id := 5) ?_
    all_goals refine awpOps_cons (op_add rfl rfl rfl (by omega)) ?_
    all_goals refine awpOps_cons (op_mv rfl (Conv.of rfl) rfl) ?_
    all_goals refine awpOps_nil ?_
    repeat first | refine nx_seq ?_ | refine nx_block ?_
    exact ⟨n - 1, _, by omega, ⟨k + 1, by omega, rfl⟩, Le.mk rfl (tlb rfl rfl rfl (tlb rfl rfl rfl (tle rfl (by rfl) rfl (tle rfl (rfl) rfl tln)))) (olk rfl (by exact obOkW rfl) (olk (by (exact congrArg Obj.arr (tick_step hx).symm)) (by exact obOk_arr) oln)) (hS_sub (a := wo w) rfl)⟩
  · refine awp_exit ?_
    repeat refine ex_seq ?_
    refine ex_block ?_
    have hk : k = 4 := by simp at h; omega
    subst hk
    refine finO (wo (tickF w)) .nil rfl (fun o ho => by cases ho) ?_ (hS_keys rfl) rfl
    exact (olk rfl (obOkW rfl) (olk (congrArg Obj.arr (by rw [take_end (by omega), drop_end (by omega), List.append_nil]; rfl)) obOk_arr oln))
end Go.Proofs.YtmdhfalfppkpeaaGreat

/- What happens in a world. -/
set_option linter.unusedVariables false
set_option linter.unusedSimpArgs false
namespace Go.Proofs.YtmdhfalfppkpeaaGreat
open Go Go.Wt
set_option maxHeartbeats 1000000 in
theorem wpropose_ct (w : Wrld) (id : Int) (p : Pay) (hw : Fine w) : CtO Tryz.prog 112 [.box 0 (IsLens.whole WrldA), .v id, .v p] (wo w) (.tup []) (wo (wproposeF w id p)) := by
  have h4 := hw.four
  have hc := honest_ct w id h4
  refine Ct.intro Tryz.func112 rfl rfl ?_
  all_goals refine awp_seq (awp_region (id := 0) ?_)
  all_goals refine awpOps_cons (op_box (o := 2) ty58 rfl (Conv.of rfl) rfl rfl) ?_
  all_goals refine awpOps_nil ?_
  cases hb : honestB w id with
  | false =>
    rw [hb] at hc
    all_goals refine awp_seq (awp_region (id := 1) ?_)
    all_goals refine awpOps_cons (op_mv rfl (Conv.of rfl) rfl) ?_
    all_goals refine awpOps_cons (op_mv rfl (Conv.of rfl) rfl) ?_
    all_goals refine awpOps_cons (op_callO fb155 (.cons rfl (Conv.of rfl) (.cons rfl (Conv.of rfl) (.nil _))) (hc) (olsk rfl (olsk rfl ols0)) (oksk (by exact obOkW rfl) (oksk (by exact obOk_arr) oks0)) (oksk (by exact obOkW rfl) (oksk (by exact obOk_arr) oks0)) rfl (argOb rfl rfl rfl (argOk' rfl rfl argO0)) (fun o ho => by cases ho) rfl) ?_
    all_goals refine awpOps_cons (op_as rfl (Conv.of rfl) rfl) ?_
    all_goals refine awpOps_nil ?_
    all_goals refine awp_seq (awp_seq (awp_region (id := 2) ?_))
    all_goals refine awpOps_cons (op_mv rfl (Conv.of rfl) rfl) ?_
    all_goals refine awpOps_cons (op_eqp_nil up155 rfl rfl) ?_
    all_goals refine awpOps_cons (op_mv rfl (Conv.of rfl) rfl) ?_
    all_goals refine g_lit (t := 15) (b := true) rfl ?_
    all_goals refine awpOps_cons (g_off rfl rfl rfl rfl rfl) ?_
    all_goals refine awpOps_cons (g_off rfl rfl rfl rfl rfl) ?_
    all_goals refine awpOps_cons (g_off rfl rfl rfl rfl rfl) ?_
    all_goals refine awpOps_cons (op_pick rfl rfl rfl rfl) ?_
    all_goals refine awpOps_nil ?_
    refine awp_cond rfl (fun h => ?_) (fun h => absurd h (by decide))
    refine awp_ret ?_
    repeat first | refine rt_seq ?_ | refine rt_block ?_
    refine finO (wo (wproposeF w id p)) .nil rfl (fun o ho => by cases ho) ?_ (hS_keys rfl) rfl
    simp only [wproposeF, hb, Bool.false_and]
    exact (olk rfl (obOkW rfl) (olk rfl obOk_arr oln))
  | true =>
    rw [hb] at hc
    simp only [if_true] at hc
    have hid : 1 ≤ id ∧ id ≤ 4 := by simp only [honestB, Bool.and_eq_true] at hb; simpa [within] using hb.1.1
    have hlt : (id - 1).toNat < w.nodes.length := by omega
    have hx : w.nodes[(id - 1).toNat]? = some w.nodes[(id - 1).toNat] := List.getElem?_eq_getElem hlt
    have hgd := hw.seen _ (List.getElem_mem hlt)
    generalize hnn : w.nodes[(id - 1).toNat] = n at hx hgd
    all_goals refine awp_seq (awp_region (id := 1) ?_)
    all_goals refine awpOps_cons (op_mv rfl (Conv.of rfl) rfl) ?_
    all_goals refine awpOps_cons (op_mv rfl (Conv.of rfl) rfl) ?_
    all_goals refine awpOps_cons (op_callO fb155 (.cons rfl (Conv.of rfl) (.cons rfl (Conv.of rfl) (.nil _))) (hc) (olsk rfl (olsk rfl ols0)) (oksk (by exact obOkW rfl) (oksk (by exact obOk_arr) oks0)) (oksk (by exact obOkW rfl) (oksk (by exact obOk_arr) oks0)) rfl (argOb rfl rfl rfl (argOk' rfl rfl argO0)) (fun o ho => by simp [AV.refs] at ho; subst ho; rfl) rfl) ?_
    all_goals refine awpOps_cons (op_as rfl (Conv.of rfl) rfl) ?_
    all_goals refine awpOps_nil ?_
    all_goals refine awp_seq (awp_seq (awp_region (id := 2) ?_))
    all_goals refine awpOps_cons (op_mv rfl (Conv.of rfl) rfl) ?_
    all_goals refine awpOps_cons (op_eqp_elm up155 rfl rfl) ?_
    all_goals refine awpOps_cons (op_mv rfl (Conv.of rfl) rfl) ?_
    all_goals refine g_lit (t := 15) (b := false) rfl ?_
    all_goals refine awpOps_cons (g_on rfl rfl rfl (op_ld ty58 rfl rfl rfl)) ?_
    all_goals refine awpOps_cons (g_on rfl rfl rfl (op_call fb146 (.cons rfl (Conv.of rfl) (.nil _)) (payOk_ct _) (argOk rfl rfl argOk0) rfl rfl)) ?_
    all_goals refine awpOps_cons (g_on rfl rfl rfl (op_not rfl rfl)) ?_
    all_goals refine awpOps_cons (op_pick rfl rfl rfl rfl) ?_
    all_goals refine awpOps_nil ?_
    refine awp_cond rfl (fun h => ?_) (fun h => ?_)
    · refine awp_ret ?_
      repeat first | refine rt_seq ?_ | refine rt_block ?_
      refine finO (wo (wproposeF w id p)) .nil rfl (fun o ho => by cases ho) ?_ (hS_keys rfl) rfl
      simp only [wproposeF, hb, not_t h, Bool.and_false]
      exact (olk rfl (obOkW rfl) (olk rfl obOk_arr oln))
    · have hp := not_f h
      refine awp_skip ?_
      all_goals refine awp_seq (dr_start (id := 3) ?_)
      all_goals refine dr_cons (op_mv rfl (Conv.of rfl) rfl) ?_
      all_goals refine dr_cons (op_nilc_elm rfl rfl) ?_
      all_goals refine dr_cons (op_lde ty41 rfl rfl hx rfl) ?_
      all_goals refine dr_cons (op_ld ty58 rfl rfl rfl) ?_
      all_goals refine dr_cons (op_call fb156 (.cons rfl (Conv.of rfl) (.cons rfl (Conv.of rfl) (.nil _))) (npropose_ct n p hgd) (argOk rfl rfl (argOk rfl rfl argOk0)) rfl rfl) ?_
      all_goals refine dr_cons (op_mv rfl (Conv.of rfl) rfl) ?_
      all_goals refine dr_cons (op_ext rfl rfl rfl) ?_
      all_goals refine dr_cons (op_ext rfl rfl rfl) ?_
      all_goals refine dr_cons (op_ext rfl rfl rfl) ?_
      all_goals refine dr_cons (op_alloc (o := 3) z41 rfl rfl) ?_
      all_goals refine dr_cons (op_alloc (o := 4) z48 rfl rfl) ?_
      all_goals refine dr_cons (op_st ty41 rfl rfl (Conv.of rfl) rfl) ?_
      all_goals refine dr_cons (op_st ty48 rfl rfl (Conv.of rfl) rfl) ?_
      all_goals refine dr_cons (op_as rfl (Conv.of rfl) rfl) ?_
      all_goals refine dr_nil mixed rfl ?_
      all_goals refine awp_seq (awp_region (id := 4) ?_)
      all_goals refine awpOps_cons (op_mv rfl (Conv.of rfl) rfl) ?_
      all_goals refine awpOps_cons (op_ld ty41 rfl rfl rfl) ?_
      all_goals refine awpOps_cons (op_nilc_elm rfl rfl) ?_
      all_goals refine awpOps_cons (op_ste ty41 rfl rfl (Conv.of rfl) rfl hx) ?_
      all_goals refine awpOps_nil ?_
      all_goals refine awp_seq (awp_region (id := 5) ?_)
      all_goals refine awpOps_cons (op_mv rfl (Conv.of rfl) rfl) ?_
      all_goals refine awpOps_nil ?_
      refine awp_cond rfl (fun h2 => ?_) (fun h2 => ?_)
      · all_goals refine awp_region (id := 6) ?_
        all_goals refine awpOps_cons (op_mv rfl (Conv.of rfl) rfl) ?_
        all_goals refine awpOps_cons (op_ld ty48 rfl rfl rfl) ?_
        all_goals refine awpOps_cons (op_callO fb114 (.cons rfl (Conv.of rfl) (.cons rfl (Conv.of rfl) (.nil _))) (send_ct { w with nodes := w.nodes.set (id - 1).toNat (proposeF n p).1 } _ hw.log (proposeF_len p hgd)) (olsk rfl (olsk rfl ols0)) (oksk (by exact obOkW rfl) (oksk (by exact obOk_arr) oks0)) (oksk (by exact obOkW rfl) (oksk (by exact obOk_arr) oks0)) rfl (argOb rfl rfl rfl (argOk' rfl rfl argO0)) (fun o ho => by cases ho) rfl) ?_
        all_goals refine awpOps_nil ?_
        refine finO (wo (wproposeF w id p)) .nil rfl (fun o ho => by cases ho) ?_ (hS_keys rfl) rfl
        have e : wproposeF w id p = sendF { w with nodes := w.nodes.set (id - 1).toNat (proposeF n p).1 } (proposeF n p).2.1 := by
          simp only [wproposeF, hb, hp, hx, Bool.and_self, if_true, putF]
          rw [if_pos (show (proposeF n p).2.2 = true from h2)]
        rw [e]
        exact (olk rfl (obOkW rfl) (olk rfl obOk_arr oln))
      · refine awp_skip ?_
        refine finO (wo (wproposeF w id p)) .nil rfl (fun o ho => by cases ho) ?_ (hS_keys rfl) rfl
        have e : wproposeF w id p = { w with nodes := w.nodes.set (id - 1).toNat (proposeF n p).1 } := by
          simp only [wproposeF, hb, hp, hx, Bool.and_self, if_true, putF]
          rw [if_neg (by rw [show (proposeF n p).2.2 = false from h2]; decide)]
        rw [e]
        exact (olk rfl (obOkW rfl) (olk rfl obOk_arr oln))
set_option maxHeartbeats 1000000 in
theorem wbring_ct (w : Wrld) (at_ id : Int) (hw : Fine w) : CtO Tryz.prog 113 [.box 0 (IsLens.whole WrldA), .v at_, .v id] (wo w) (.tup []) (wo (wbringF w at_ id)) := by
  have h4 := hw.four
  have hlg := hw.log.len
  have hc := honest_ct w id h4
  refine Ct.intro Tryz.func113 rfl rfl ?_
  cases hb : honestB w id with
  | false =>
    rw [hb] at hc
    all_goals refine awp_seq (awp_region (id := 0) ?_)
    all_goals refine awpOps_cons (op_mv rfl (Conv.of rfl) rfl) ?_
    all_goals refine awpOps_cons (op_mv rfl (Conv.of rfl) rfl) ?_
    all_goals refine awpOps_cons (op_callO fb155 (.cons rfl (Conv.of rfl) (.cons rfl (Conv.of rfl) (.nil _))) (hc) (olsk rfl (olsk rfl ols0)) (oksk (by exact obOkW rfl) (oksk (by exact obOk_arr) oks0)) (oksk (by exact obOkW rfl) (oksk (by exact obOk_arr) oks0)) rfl (argOb rfl rfl rfl (argOk' rfl rfl argO0)) (fun o ho => by cases ho) rfl) ?_
    all_goals refine awpOps_cons (op_as rfl (Conv.of rfl) rfl) ?_
    all_goals refine awpOps_nil ?_
    all_goals refine awp_seq (awp_seq (awp_region (id := 1) ?_))
    all_goals refine awpOps_cons (op_mv rfl (Conv.of rfl) rfl) ?_
    all_goals refine awpOps_cons (op_eqp_nil up155 rfl rfl) ?_
    all_goals refine awpOps_cons (op_mv rfl (Conv.of rfl) rfl) ?_
    all_goals refine g_lit (t := 15) (b := true) rfl ?_
    all_goals refine awpOps_cons (g_off rfl rfl rfl rfl rfl) ?_
    all_goals refine awpOps_cons (g_off rfl rfl rfl rfl rfl) ?_
    all_goals refine awpOps_cons (g_off rfl rfl rfl rfl rfl) ?_
    all_goals refine awpOps_cons (g_off rfl rfl rfl rfl rfl) ?_
    all_goals refine awpOps_cons (g_off rfl rfl rfl rfl rfl) ?_
    all_goals refine awpOps_cons (g_off rfl rfl rfl rfl rfl) ?_
    all_goals refine awpOps_cons (g_off rfl rfl rfl rfl rfl) ?_
    all_goals refine awpOps_cons (g_off rfl rfl rfl rfl rfl) ?_
    all_goals refine awpOps_cons (g_off rfl rfl rfl rfl rfl) ?_
    all_goals refine awpOps_cons (op_pick rfl rfl rfl rfl) ?_
    all_goals refine awpOps_nil ?_
    refine awp_cond rfl (fun h => ?_) (fun h => absurd h (by decide))
    refine awp_ret ?_
    repeat first | refine rt_seq ?_ | refine rt_block ?_
    refine finO (wo (wbringF w at_ id)) .nil rfl (fun o ho => by cases ho) ?_ (hS_keys rfl) rfl
    simp only [wbringF, hb, Bool.false_and]
    exact (olk rfl (obOkW rfl) (olk rfl obOk_arr oln))
  | true =>
    rw [hb] at hc
    simp only [if_true] at hc
    have hid : 1 ≤ id ∧ id ≤ 4 := by simp only [honestB, Bool.and_eq_true] at hb; simpa [within] using hb.1.1
    have hlt : (id - 1).toNat < w.nodes.length := by omega
    have hx : w.nodes[(id - 1).toNat]? = some w.nodes[(id - 1).toNat] := List.getElem?_eq_getElem hlt
    have hgd := hw.seen _ (List.getElem_mem hlt)
    generalize hnn : w.nodes[(id - 1).toNat] = n at hx hgd
    all_goals refine awp_seq (awp_region (id := 0) ?_)
    all_goals refine awpOps_cons (op_mv rfl (Conv.of rfl) rfl) ?_
    all_goals refine awpOps_cons (op_mv rfl (Conv.of rfl) rfl) ?_
    all_goals refine awpOps_cons (op_callO fb155 (.cons rfl (Conv.of rfl) (.cons rfl (Conv.of rfl) (.nil _))) (hc) (olsk rfl (olsk rfl ols0)) (oksk (by exact obOkW rfl) (oksk (by exact obOk_arr) oks0)) (oksk (by exact obOkW rfl) (oksk (by exact obOk_arr) oks0)) rfl (argOb rfl rfl rfl (argOk' rfl rfl argO0)) (fun o ho => by simp [AV.refs] at ho; subst ho; rfl) rfl) ?_
    all_goals refine awpOps_cons (op_as rfl (Conv.of rfl) rfl) ?_
    all_goals refine awpOps_nil ?_
    all_goals refine awp_seq (awp_seq (awp_region (id := 1) ?_))
    all_goals refine awpOps_cons (op_mv rfl (Conv.of rfl) rfl) ?_
    all_goals refine awpOps_cons (op_eqp_elm up155 rfl rfl) ?_
    all_goals refine awpOps_cons (op_mv rfl (Conv.of rfl) rfl) ?_
    all_goals refine g_lit (t := 15) (b := false) rfl ?_
    all_goals refine awpOps_cons (g_on rfl rfl rfl (op_mv rfl (Conv.of rfl) rfl)) ?_
    all_goals refine awpOps_cons (g_on rfl rfl rfl (op_mv rfl (Conv.of rfl) rfl)) ?_
    all_goals refine awpOps_cons (g_on rfl rfl rfl (op_nilc_box rfl rfl)) ?_
    all_goals refine awpOps_cons (g_on rfl rfl rfl (op_fab f29_2_WrldA rfl rfl)) ?_
    all_goals refine awpOps_cons (g_on rfl rfl rfl (op_ld ty27 rfl rfl rfl)) ?_
    all_goals refine awpOps_cons (g_on rfl rfl rfl (op_len sl27 rfl rfl)) ?_
    all_goals refine awpOps_cons (g_on rfl rfl rfl (op_sub rfl rfl rfl (by ((try simp only [wA]); omega)))) ?_
    all_goals refine awpOps_cons (g_on rfl rfl rfl (op_call fb83 (.cons rfl (Conv.of rfl) (.cons rfl (Conv.of rfl) (.cons rfl (Conv.of rfl) (.nil _)))) (within_ct _ _ _) (argOk rfl rfl (argOk rfl rfl (argOk rfl rfl argOk0))) rfl rfl)) ?_
    all_goals refine awpOps_cons (g_on rfl rfl rfl (op_not rfl rfl)) ?_
    all_goals refine awpOps_cons (op_pick rfl rfl rfl rfl) ?_
    all_goals refine awpOps_nil ?_
    refine awp_cond rfl (fun h => ?_) (fun h => ?_)
    · refine awp_ret ?_
      repeat first | refine rt_seq ?_ | refine rt_block ?_
      refine finO (wo (wbringF w at_ id)) .nil rfl (fun o ho => by cases ho) ?_ (hS_keys rfl) rfl
      have h' : within at_ 0 ((w.log.length : Int) - 1) = false := not_t h
      simp only [wbringF, hb, h', Bool.and_false]
      exact (olk rfl (obOkW rfl) (olk rfl obOk_arr oln))
    · have h' : within at_ 0 ((w.log.length : Int) - 1) = true := not_f h
      have hat : 0 ≤ at_ ∧ at_ ≤ (w.log.length : Int) - 1 := by simpa [within] using h'
      have hy : w.log[at_.toNat]? = some (w.log[at_.toNat]'(by omega)) := List.getElem?_eq_getElem (by omega)
      generalize (w.log[at_.toNat]'(by omega)) = v at hy
      refine awp_skip ?_
      all_goals refine awp_seq (dr_start (id := 2) ?_)
      all_goals refine dr_cons (op_mv rfl (Conv.of rfl) rfl) ?_
      all_goals refine dr_cons (op_nilc_elm rfl rfl) ?_
      all_goals refine dr_cons (op_lde ty41 rfl rfl hx rfl) ?_
      all_goals refine dr_cons (op_mv rfl (Conv.of rfl) rfl) ?_
      all_goals refine dr_cons (op_nilc_box rfl rfl) ?_
      all_goals refine dr_cons (op_fab f29_2_WrldA rfl rfl) ?_
      all_goals refine dr_cons (op_ld ty27 rfl rfl rfl) ?_
      all_goals refine dr_cons (op_mv rfl (Conv.of rfl) rfl) ?_
      all_goals refine dr_cons (op_ix sl27 rfl rfl rfl hat.1 hy) ?_
      all_goals refine dr_cons (op_ldr ty48 rfl rfl) ?_
      all_goals refine dr_cons (op_call fb106 (.cons rfl (Conv.of rfl) (.cons rfl (Conv.of rfl) (.nil _))) (nhear_ct n v hgd) (argOk rfl rfl (argOk rfl rfl argOk0)) rfl rfl) ?_
      all_goals refine dr_cons (op_mv rfl (Conv.of rfl) rfl) ?_
      all_goals refine dr_cons (op_ext rfl rfl rfl) ?_
      all_goals refine dr_cons (op_ext rfl rfl rfl) ?_
      all_goals refine dr_cons (op_ext rfl rfl rfl) ?_
      all_goals refine dr_cons (op_alloc (o := 2) z41 rfl rfl) ?_
      all_goals refine dr_cons (op_alloc (o := 3) z48 rfl rfl) ?_
      all_goals refine dr_cons (op_st ty41 rfl rfl (Conv.of rfl) rfl) ?_
      all_goals refine dr_cons (op_st ty48 rfl rfl (Conv.of rfl) rfl) ?_
      all_goals refine dr_cons (op_as rfl (Conv.of rfl) rfl) ?_
      all_goals refine dr_nil mixed rfl ?_
      all_goals refine awp_seq (awp_region (id := 3) ?_)
      all_goals refine awpOps_cons (op_mv rfl (Conv.of rfl) rfl) ?_
      all_goals refine awpOps_cons (op_ld ty41 rfl rfl rfl) ?_
      all_goals refine awpOps_cons (op_nilc_elm rfl rfl) ?_
      all_goals refine awpOps_cons (op_ste ty41 rfl rfl (Conv.of rfl) rfl hx) ?_
      all_goals refine awpOps_nil ?_
      all_goals refine awp_seq (awp_region (id := 4) ?_)
      all_goals refine awpOps_cons (op_mv rfl (Conv.of rfl) rfl) ?_
      all_goals refine awpOps_nil ?_
      refine awp_cond rfl (fun h2 => ?_) (fun h2 => ?_)
      · all_goals refine awp_region (id := 5) ?_
        all_goals refine awpOps_cons (op_mv rfl (Conv.of rfl) rfl) ?_
        all_goals refine awpOps_cons (op_ld ty48 rfl rfl rfl) ?_
        all_goals refine awpOps_cons (op_callO fb114 (.cons rfl (Conv.of rfl) (.cons rfl (Conv.of rfl) (.nil _))) (send_ct { w with nodes := w.nodes.set (id - 1).toNat (hearF n v).1 } _ hw.log (hearF_len v hgd)) (olsk rfl (olsk rfl ols0)) (oksk (by exact obOkW rfl) (oksk (by exact obOk_arr) oks0)) (oksk (by exact obOkW rfl) (oksk (by exact obOk_arr) oks0)) rfl (argOb rfl rfl rfl (argOk' rfl rfl argO0)) (fun o ho => by cases ho) rfl) ?_
        all_goals refine awpOps_nil ?_
        refine finO (wo (wbringF w at_ id)) .nil rfl (fun o ho => by cases ho) ?_ (hS_keys rfl) rfl
        have e : wbringF w at_ id = sendF { w with nodes := w.nodes.set (id - 1).toNat (hearF n v).1 } (hearF n v).2.1 := by
          simp only [wbringF, hb, h', hx, hy, Bool.and_self, if_true, putF]
          rw [if_pos (show (hearF n v).2.2 = true from h2)]
        rw [e]
        exact (olk rfl (obOkW rfl) (olk rfl obOk_arr oln))
      · refine awp_skip ?_
        refine finO (wo (wbringF w at_ id)) .nil rfl (fun o ho => by cases ho) ?_ (hS_keys rfl) rfl
        have e : wbringF w at_ id = { w with nodes := w.nodes.set (id - 1).toNat (hearF n v).1 } := by
          simp only [wbringF, hb, h', hx, hy, Bool.and_self, if_true, putF]
          rw [if_neg (by rw [show (hearF n v).2.2 = false from h2]; decide)]
        rw [e]
        exact (olk rfl (obOkW rfl) (olk rfl obOk_arr oln))
end Go.Proofs.YtmdhfalfppkpeaaGreat

/- Plays. -/
set_option linter.unusedVariables false
set_option linter.unusedSimpArgs false
namespace Go.Proofs.YtmdhfalfppkpeaaGreat
open Go Go.Wt
end Go.Proofs.YtmdhfalfppkpeaaGreat

/- Worlds copied. -/
set_option linter.unusedVariables false
set_option linter.unusedSimpArgs false
namespace Go.Proofs.YtmdhfalfppkpeaaGreat
open Go Go.Wt
theorem copiedA_ct (e : Int) (a b c d : Nod) (l : List Vote) (bd : Int) (hl : Gd l) (ha : Gd a.seen) (hb : Gd b.seen) (hc : Gd c.seen) (hd : Gd d.seen) :
    Ct Tryz.prog 56 [.v (WrldA.mk e (.ref 1) l bd)] (obs [(1, .arr [a, b, c, d])]) (fun r1 h1 => r1 = .v (WrldA.mk e (.ref 2) l bd) ∧ h1 = obs [(1, .arr [a, b, c, d]), (2, .arr [a, b, c, d])]) := by
  refine Ct.intro Tryz.func56 rfl rfl ?_
  all_goals refine awp_seq (awp_region (id := 0) ?_)
  all_goals refine awpOps_cons (op_box (o := 5) ty29_WrldA rfl (Conv.of rfl) rfl rfl) ?_
  all_goals refine awpOps_cons (op_alloc (o := 6) z29_WrldA rfl rfl) ?_
  all_goals refine awpOps_nil ?_
  all_goals refine awp_seq (dr_start (id := 1) ?_)
  all_goals refine dr_cons (op_fab f29_0_WrldA rfl rfl) ?_
  all_goals refine dr_cons (op_ld ty3 rfl rfl rfl) ?_
  all_goals refine dr_cons (op_fab f29_1_WrldA rfl rfl) ?_
  all_goals refine dr_cons (op_ld ty26_NRef rfl rfl rfl) ?_
  all_goals refine dr_cons (op_lenA sl26 rfl rfl rfl) ?_
  all_goals refine dr_cons (op_mka (o := 11) sl26 z41 rfl rfl (by (simp)) (by (simp)) (by (simp)) rfl rfl) ?_
  all_goals refine dr_cons (op_fab f29_2_WrldA rfl rfl) ?_
  all_goals refine dr_cons (op_ld ty27 rfl rfl rfl) ?_
  all_goals refine dr_cons (op_call fb115 (.cons rfl (Conv.of rfl) (.nil _)) (votesCopied_ct _ hl.l' hl.v) (argOk rfl rfl argOk0) rfl rfl) ?_
  all_goals refine dr_cons (op_fab f29_3_WrldA rfl rfl) ?_
  all_goals refine dr_cons (op_ld ty3 rfl rfl rfl) ?_
  all_goals refine dr_cons (op_build (.cons f29_0_WrldA rfl (Conv.of rfl) (.cons f29_1_WrldA rfl (Conv.nr) (.cons f29_2_WrldA rfl (Conv.ol) (.cons f29_3_WrldA rfl (Conv.of rfl) (.nil _))))) z29_WrldA rfl pl29 rfl) ?_
  all_goals refine dr_cons (op_alloc (o := 7) z29_WrldA rfl rfl) ?_
  all_goals refine dr_cons (op_st ty29_WrldA rfl rfl (Conv.of rfl) rfl) ?_
  all_goals refine dr_nil mixed rfl ?_
  all_goals refine awp_seq (awp_seq (awp_region (id := 2) ?_))
  all_goals refine awpOps_cons (op_fab f29_1_WrldA rfl rfl) ?_
  all_goals refine awpOps_cons (op_ld ty26_NRef rfl rfl rfl) ?_
  all_goals refine awpOps_cons (op_lenA sl26 rfl rfl rfl) ?_
  all_goals refine awpOps_cons (op_mv rfl (Conv.of rfl) rfl) ?_
  all_goals refine awpOps_nil ?_
  refine awp_block ?_
  refine awp_loop' (fun n s => (n = 4 ∧ s = mkSt 34 [(2, .box 6 (IsLens.whole WrldA)), (3, .box 7 (IsLens.whole WrldA)), (19, .v (NRef.ref 1)), (20, .v (4 : Int)), (21, .v (0 : Int))] [(1, .arr [a, b, c, d]), (6, .cell WrldA.zero), (7, .cell (WrldA.mk e (.ref 11) l bd)), (11, .arr ([] : List Nod))]) ∨ (n = 3 ∧ s = mkSt 34 [(2, .box 6 (IsLens.whole WrldA)), (3, .box 7 (IsLens.whole WrldA)), (19, .v (NRef.ref 1)), (20, .v (4 : Int)), (21, .v (1 : Int))] [(1, .arr [a, b, c, d]), (6, .cell WrldA.zero), (7, .cell (WrldA.mk e (.ref 12) l bd)), (12, .arr ([a] : List Nod))]) ∨ (n = 2 ∧ s = mkSt 34 [(2, .box 6 (IsLens.whole WrldA)), (3, .box 7 (IsLens.whole WrldA)), (19, .v (NRef.ref 1)), (20, .v (4 : Int)), (21, .v (2 : Int))] [(1, .arr [a, b, c, d]), (6, .cell WrldA.zero), (7, .cell (WrldA.mk e (.ref 13) l bd)), (13, .arr ([a, b] : List Nod))]) ∨ (n = 1 ∧ s = mkSt 34 [(2, .box 6 (IsLens.whole WrldA)), (3, .box 7 (IsLens.whole WrldA)), (19, .v (NRef.ref 1)), (20, .v (4 : Int)), (21, .v (3 : Int))] [(1, .arr [a, b, c, d]), (6, .cell WrldA.zero), (7, .cell (WrldA.mk e (.ref 14) l bd)), (14, .arr ([a, b, c] : List Nod))]) ∨ (n = 0 ∧ s = mkSt 34 [(2, .box 6 (IsLens.whole WrldA)), (3, .box 7 (IsLens.whole WrldA)), (19, .v (NRef.ref 1)), (20, .v (4 : Int)), (21, .v (4 : Int))] [(1, .arr [a, b, c, d]), (6, .cell WrldA.zero), (7, .cell (WrldA.mk e (.ref 2) l bd)), (2, .arr ([a, b, c, d] : List Nod))])) 4 (.inl ⟨rfl, rfl⟩) (Le.mk rfl (tlb rfl rfl rfl (tlb rfl rfl rfl (tlb rfl rfl rfl (tle rfl (rfl) rfl (tle rfl (rfl) rfl tln))))) (olk rfl (by exact obOk_arr) (olk rfl (by exact obOkW0) (olk rfl (by exact obOkW rfl) (olk rfl (by exact obOk_arr) oln)))) (hS_sub (a := [(1, .arr [a, b, c, d])]) rfl)) ?_
  rintro n s (⟨rfl, rfl⟩|⟨rfl, rfl⟩|⟨rfl, rfl⟩|⟨rfl, rfl⟩|⟨rfl, rfl⟩)
  · all_goals refine awp_seq (awp_region (id := 3) ?_)
    all_goals refine awpOps_cons (op_lss rfl rfl rfl) ?_
    all_goals refine awpOps_nil ?_
    refine awp_seq (awp_cond rfl (fun h => ?_) (fun h => absurd h (by decide)))
    refine awp_skip ?_
    refine awp_seq (awp_block ?_)
    all_goals refine awp_seq (awp_region (id := 4) ?_)
    all_goals refine awpOps_cons (op_ixA sl26 rfl rfl rfl rfl (by simp)) ?_
    all_goals refine awpOps_cons (op_lde ty41 rfl rfl (rfl : [a, b, c, d][0]? = some a) rfl) ?_
    all_goals refine awpOps_cons (op_alloc (o := 8) z41 rfl rfl) ?_
    all_goals refine awpOps_cons (op_st ty41 rfl rfl (Conv.of rfl) rfl) ?_
    all_goals refine awpOps_nil ?_
    all_goals refine dr_start (id := 5) ?_
    all_goals refine dr_cons (op_fab f29_1_WrldA rfl rfl) ?_
    all_goals refine dr_cons (op_ld ty26_NRef rfl rfl rfl) ?_
    all_goals refine dr_cons (op_ld ty41 rfl rfl rfl) ?_
    all_goals refine dr_cons (op_call fb105 (.cons rfl (Conv.of rfl) (.nil _)) (nodeCopied_ct _ ha) (argOk rfl rfl argOk0) rfl rfl) ?_
    all_goals refine dr_cons (op_bsl sl26 z41 (.cons rfl (Conv.of rfl) (.nil _)) rfl (by decide) rfl) ?_
    all_goals refine dr_cons (op_apA (o' := 12) sl26 z41 ul26 rfl rfl rfl rfl (by simp) (by simp) (by simp) rfl) ?_
    all_goals refine dr_cons (op_fab f29_1_WrldA rfl rfl) ?_
    all_goals refine dr_cons (op_st ty26_NRef rfl rfl (Conv.of rfl) rfl) ?_
    all_goals refine dr_nil mixed rfl ?_
    all_goals refine awp_region (id := 6) ?_
    all_goals refine awpOps_cons (op_add rfl rfl rfl (by omega)) ?_
    all_goals refine awpOps_cons (op_mv rfl (Conv.of rfl) rfl) ?_
    all_goals refine awpOps_nil ?_
    repeat first | refine nx_seq ?_ | refine nx_block ?_
    exact ⟨3, _, by decide, .inr (.inl ⟨rfl, rfl⟩), Le.mk rfl (tlb rfl rfl rfl (tlb rfl rfl rfl (tlb rfl rfl rfl (tle rfl (rfl) rfl (tle rfl (rfl) rfl tln))))) (olk rfl (by exact obOk_arr) (olk rfl (by exact obOkW0) (olk rfl (by exact obOkW rfl) (olk rfl (by exact obOk_arr) oln)))) (hS_sub (a := [(1, .arr [a, b, c, d])]) rfl)⟩
  · all_goals refine awp_seq (awp_region (id := 3) ?_)
    all_goals refine awpOps_cons (op_lss rfl rfl rfl) ?_
    all_goals refine awpOps_nil ?_
    refine awp_seq (awp_cond rfl (fun h => ?_) (fun h => absurd h (by decide)))
    refine awp_skip ?_
    refine awp_seq (awp_block ?_)
    all_goals refine awp_seq (awp_region (id := 4) ?_)
    all_goals refine awpOps_cons (op_ixA sl26 rfl rfl rfl rfl (by simp)) ?_
    all_goals refine awpOps_cons (op_lde ty41 rfl rfl (rfl : [a, b, c, d][1]? = some b) rfl) ?_
    all_goals refine awpOps_cons (op_alloc (o := 8) z41 rfl rfl) ?_
    all_goals refine awpOps_cons (op_st ty41 rfl rfl (Conv.of rfl) rfl) ?_
    all_goals refine awpOps_nil ?_
    all_goals refine dr_start (id := 5) ?_
    all_goals refine dr_cons (op_fab f29_1_WrldA rfl rfl) ?_
    all_goals refine dr_cons (op_ld ty26_NRef rfl rfl rfl) ?_
    all_goals refine dr_cons (op_ld ty41 rfl rfl rfl) ?_
    all_goals refine dr_cons (op_call fb105 (.cons rfl (Conv.of rfl) (.nil _)) (nodeCopied_ct _ hb) (argOk rfl rfl argOk0) rfl rfl) ?_
    all_goals refine dr_cons (op_bsl sl26 z41 (.cons rfl (Conv.of rfl) (.nil _)) rfl (by decide) rfl) ?_
    all_goals refine dr_cons (op_apA (o' := 13) sl26 z41 ul26 rfl rfl rfl rfl (by simp) (by simp) (by simp) rfl) ?_
    all_goals refine dr_cons (op_fab f29_1_WrldA rfl rfl) ?_
    all_goals refine dr_cons (op_st ty26_NRef rfl rfl (Conv.of rfl) rfl) ?_
    all_goals refine dr_nil mixed rfl ?_
    all_goals refine awp_region (id := 6) ?_
    all_goals refine awpOps_cons (op_add rfl rfl rfl (by omega)) ?_
    all_goals refine awpOps_cons (op_mv rfl (Conv.of rfl) rfl) ?_
    all_goals refine awpOps_nil ?_
    repeat first | refine nx_seq ?_ | refine nx_block ?_
    exact ⟨2, _, by decide, .inr (.inr (.inl ⟨rfl, rfl⟩)), Le.mk rfl (tlb rfl rfl rfl (tlb rfl rfl rfl (tlb rfl rfl rfl (tle rfl (rfl) rfl (tle rfl (rfl) rfl tln))))) (olk rfl (by exact obOk_arr) (olk rfl (by exact obOkW0) (olk rfl (by exact obOkW rfl) (olk rfl (by exact obOk_arr) oln)))) (hS_sub (a := [(1, .arr [a, b, c, d])]) rfl)⟩
  · all_goals refine awp_seq (awp_region (id := 3) ?_)
    all_goals refine awpOps_cons (op_lss rfl rfl rfl) ?_
    all_goals refine awpOps_nil ?_
    refine awp_seq (awp_cond rfl (fun h => ?_) (fun h => absurd h (by decide)))
    refine awp_skip ?_
    refine awp_seq (awp_block ?_)
    all_goals refine awp_seq (awp_region (id := 4) ?_)
    all_goals refine awpOps_cons (op_ixA sl26 rfl rfl rfl rfl (by simp)) ?_
    all_goals refine awpOps_cons (op_lde ty41 rfl rfl (rfl : [a, b, c, d][2]? = some c) rfl) ?_
    all_goals refine awpOps_cons (op_alloc (o := 8) z41 rfl rfl) ?_
    all_goals refine awpOps_cons (op_st ty41 rfl rfl (Conv.of rfl) rfl) ?_
    all_goals refine awpOps_nil ?_
    all_goals refine dr_start (id := 5) ?_
    all_goals refine dr_cons (op_fab f29_1_WrldA rfl rfl) ?_
    all_goals refine dr_cons (op_ld ty26_NRef rfl rfl rfl) ?_
    all_goals refine dr_cons (op_ld ty41 rfl rfl rfl) ?_
    all_goals refine dr_cons (op_call fb105 (.cons rfl (Conv.of rfl) (.nil _)) (nodeCopied_ct _ hc) (argOk rfl rfl argOk0) rfl rfl) ?_
    all_goals refine dr_cons (op_bsl sl26 z41 (.cons rfl (Conv.of rfl) (.nil _)) rfl (by decide) rfl) ?_
    all_goals refine dr_cons (op_apA (o' := 14) sl26 z41 ul26 rfl rfl rfl rfl (by simp) (by simp) (by simp) rfl) ?_
    all_goals refine dr_cons (op_fab f29_1_WrldA rfl rfl) ?_
    all_goals refine dr_cons (op_st ty26_NRef rfl rfl (Conv.of rfl) rfl) ?_
    all_goals refine dr_nil mixed rfl ?_
    all_goals refine awp_region (id := 6) ?_
    all_goals refine awpOps_cons (op_add rfl rfl rfl (by omega)) ?_
    all_goals refine awpOps_cons (op_mv rfl (Conv.of rfl) rfl) ?_
    all_goals refine awpOps_nil ?_
    repeat first | refine nx_seq ?_ | refine nx_block ?_
    exact ⟨1, _, by decide, .inr (.inr (.inr (.inl ⟨rfl, rfl⟩))), Le.mk rfl (tlb rfl rfl rfl (tlb rfl rfl rfl (tlb rfl rfl rfl (tle rfl (rfl) rfl (tle rfl (rfl) rfl tln))))) (olk rfl (by exact obOk_arr) (olk rfl (by exact obOkW0) (olk rfl (by exact obOkW rfl) (olk rfl (by exact obOk_arr) oln)))) (hS_sub (a := [(1, .arr [a, b, c, d])]) rfl)⟩
  · all_goals refine awp_seq (awp_region (id := 3) ?_)
    all_goals refine awpOps_cons (op_lss rfl rfl rfl) ?_
    all_goals refine awpOps_nil ?_
    refine awp_seq (awp_cond rfl (fun h => ?_) (fun h => absurd h (by decide)))
    refine awp_skip ?_
    refine awp_seq (awp_block ?_)
    all_goals refine awp_seq (awp_region (id := 4) ?_)
    all_goals refine awpOps_cons (op_ixA sl26 rfl rfl rfl rfl (by simp)) ?_
    all_goals refine awpOps_cons (op_lde ty41 rfl rfl (rfl : [a, b, c, d][3]? = some d) rfl) ?_
    all_goals refine awpOps_cons (op_alloc (o := 8) z41 rfl rfl) ?_
    all_goals refine awpOps_cons (op_st ty41 rfl rfl (Conv.of rfl) rfl) ?_
    all_goals refine awpOps_nil ?_
    all_goals refine dr_start (id := 5) ?_
    all_goals refine dr_cons (op_fab f29_1_WrldA rfl rfl) ?_
    all_goals refine dr_cons (op_ld ty26_NRef rfl rfl rfl) ?_
    all_goals refine dr_cons (op_ld ty41 rfl rfl rfl) ?_
    all_goals refine dr_cons (op_call fb105 (.cons rfl (Conv.of rfl) (.nil _)) (nodeCopied_ct _ hd) (argOk rfl rfl argOk0) rfl rfl) ?_
    all_goals refine dr_cons (op_bsl sl26 z41 (.cons rfl (Conv.of rfl) (.nil _)) rfl (by decide) rfl) ?_
    all_goals refine dr_cons (op_apA (o' := 2) sl26 z41 ul26 rfl rfl rfl rfl (by simp) (by simp) (by simp) rfl) ?_
    all_goals refine dr_cons (op_fab f29_1_WrldA rfl rfl) ?_
    all_goals refine dr_cons (op_st ty26_NRef rfl rfl (Conv.of rfl) rfl) ?_
    all_goals refine dr_nil mixed rfl ?_
    all_goals refine awp_region (id := 6) ?_
    all_goals refine awpOps_cons (op_add rfl rfl rfl (by omega)) ?_
    all_goals refine awpOps_cons (op_mv rfl (Conv.of rfl) rfl) ?_
    all_goals refine awpOps_nil ?_
    repeat first | refine nx_seq ?_ | refine nx_block ?_
    exact ⟨0, _, by decide, .inr (.inr (.inr (.inr (⟨rfl, rfl⟩)))), Le.mk rfl (tlb rfl rfl rfl (tlb rfl rfl rfl (tlb rfl rfl rfl (tle rfl (rfl) rfl (tle rfl (rfl) rfl tln))))) (olk rfl (by exact obOk_arr) (olk rfl (by exact obOkW0) (olk rfl (by exact obOkW rfl) (olk rfl (by exact obOk_arr) oln)))) (hS_sub (a := [(1, .arr [a, b, c, d])]) rfl)⟩
  · all_goals refine awp_seq (awp_region (id := 3) ?_)
    all_goals refine awpOps_cons (op_lss rfl rfl rfl) ?_
    all_goals refine awpOps_nil ?_
    refine awp_seq (awp_cond rfl (fun h => absurd h (by decide)) (fun h => ?_))
    refine awp_exit ?_
    repeat refine ex_seq ?_
    refine ex_block ?_
    all_goals refine awp_seq (awp_region (id := 7) ?_)
    all_goals refine awpOps_cons (op_ld ty29_WrldA rfl rfl rfl) ?_
    all_goals refine awpOps_cons (op_st ty29_WrldA rfl rfl (Conv.of rfl) rfl) ?_
    all_goals refine awpOps_nil ?_
    refine awp_ret ?_
    repeat first | refine rt_seq ?_ | refine rt_block ?_
    refine ⟨_, _, res1 (ol := [(1, .arr [a, b, c, d]), (2, .arr [a, b, c, d])]) (.rc ty29_WrldA rfl rfl) (fun o ho => ?_) (olk rfl obOk_arr (olk rfl obOk_arr oln)) (hS_sub (a := [(1, .arr [a, b, c, d])]) rfl), rfl, rfl⟩
    have : o = 2 := by simpa using (show o ∈ [2] from ho)
    subst this; rfl
theorem copiedP_ct (e : Int) (a b c d : Nod) (l : List Vote) (bd : Int) (hl : Gd l) (ha : Gd a.seen) (hb : Gd b.seen) (hc : Gd c.seen) (hd : Gd d.seen) :
    Ct Tryz.prog 56 [.v (Wrld.mk e [a, b, c, d] l bd)] noObj (fun r1 h1 => r1 = .v (WrldA.mk e (.ref 1) l bd) ∧ h1 = obs [(1, .arr [a, b, c, d])]) := by
  refine Ct.intro Tryz.func56 rfl rfl ?_
  all_goals refine awp_seq (awp_region (id := 0) ?_)
  all_goals refine awpOps_cons (op_box (o := 5) ty29 rfl (Conv.of rfl) rfl rfl) ?_
  all_goals refine awpOps_cons (op_alloc (o := 6) z29_WrldA rfl rfl) ?_
  all_goals refine awpOps_nil ?_
  all_goals refine awp_seq (dr_start (id := 1) ?_)
  all_goals refine dr_cons (op_fab f29_0 rfl rfl) ?_
  all_goals refine dr_cons (op_ld ty3 rfl rfl rfl) ?_
  all_goals refine dr_cons (op_fab f29_1 rfl rfl) ?_
  all_goals refine dr_cons (op_ld ty26 rfl rfl rfl) ?_
  all_goals refine dr_cons (op_len sl26 rfl rfl) ?_
  all_goals refine dr_cons (op_mka (o := 11) sl26 z41 rfl rfl (by (simp)) (by (simp)) (by (simp)) rfl rfl) ?_
  all_goals refine dr_cons (op_fab f29_2 rfl rfl) ?_
  all_goals refine dr_cons (op_ld ty27 rfl rfl rfl) ?_
  all_goals refine dr_cons (op_call fb115 (.cons rfl (Conv.of rfl) (.nil _)) (votesCopied_ct _ hl.l' hl.v) (argOk rfl rfl argOk0) rfl rfl) ?_
  all_goals refine dr_cons (op_fab f29_3 rfl rfl) ?_
  all_goals refine dr_cons (op_ld ty3 rfl rfl rfl) ?_
  all_goals refine dr_cons (op_build (.cons f29_0_WrldA rfl (Conv.of rfl) (.cons f29_1_WrldA rfl (Conv.nr) (.cons f29_2_WrldA rfl (Conv.ol) (.cons f29_3_WrldA rfl (Conv.of rfl) (.nil _))))) z29_WrldA rfl pl29 rfl) ?_
  all_goals refine dr_cons (op_alloc (o := 7) z29_WrldA rfl rfl) ?_
  all_goals refine dr_cons (op_st ty29_WrldA rfl rfl (Conv.of rfl) rfl) ?_
  all_goals refine dr_nil mixed rfl ?_
  all_goals refine awp_seq (awp_seq (awp_region (id := 2) ?_))
  all_goals refine awpOps_cons (op_fab f29_1 rfl rfl) ?_
  all_goals refine awpOps_cons (op_ld ty26 rfl rfl rfl) ?_
  all_goals refine awpOps_cons (op_len sl26 rfl rfl) ?_
  all_goals refine awpOps_cons (op_mv rfl (Conv.of rfl) rfl) ?_
  all_goals refine awpOps_nil ?_
  refine awp_block ?_
  refine awp_loop' (fun n s => (n = 4 ∧ s = mkSt 34 [(2, .box 6 (IsLens.whole WrldA)), (3, .box 7 (IsLens.whole WrldA)), (19, .v [a, b, c, d]), (20, .v (4 : Int)), (21, .v (0 : Int))] [(6, .cell WrldA.zero), (7, .cell (WrldA.mk e (.ref 11) l bd)), (11, .arr ([] : List Nod))]) ∨ (n = 3 ∧ s = mkSt 34 [(2, .box 6 (IsLens.whole WrldA)), (3, .box 7 (IsLens.whole WrldA)), (19, .v [a, b, c, d]), (20, .v (4 : Int)), (21, .v (1 : Int))] [(6, .cell WrldA.zero), (7, .cell (WrldA.mk e (.ref 12) l bd)), (12, .arr ([a] : List Nod))]) ∨ (n = 2 ∧ s = mkSt 34 [(2, .box 6 (IsLens.whole WrldA)), (3, .box 7 (IsLens.whole WrldA)), (19, .v [a, b, c, d]), (20, .v (4 : Int)), (21, .v (2 : Int))] [(6, .cell WrldA.zero), (7, .cell (WrldA.mk e (.ref 13) l bd)), (13, .arr ([a, b] : List Nod))]) ∨ (n = 1 ∧ s = mkSt 34 [(2, .box 6 (IsLens.whole WrldA)), (3, .box 7 (IsLens.whole WrldA)), (19, .v [a, b, c, d]), (20, .v (4 : Int)), (21, .v (3 : Int))] [(6, .cell WrldA.zero), (7, .cell (WrldA.mk e (.ref 14) l bd)), (14, .arr ([a, b, c] : List Nod))]) ∨ (n = 0 ∧ s = mkSt 34 [(2, .box 6 (IsLens.whole WrldA)), (3, .box 7 (IsLens.whole WrldA)), (19, .v [a, b, c, d]), (20, .v (4 : Int)), (21, .v (4 : Int))] [(6, .cell WrldA.zero), (7, .cell (WrldA.mk e (.ref 1) l bd)), (1, .arr ([a, b, c, d] : List Nod))])) 4 (.inl ⟨rfl, rfl⟩) (Le.mk rfl (tlb rfl rfl rfl (tlb rfl rfl rfl (tle rfl (rfl) rfl (tle rfl (rfl) rfl (tle rfl (rfl) rfl tln))))) (olk rfl (by exact obOkW0) (olk rfl (by exact obOkW rfl) (olk rfl (by exact obOk_arr) oln))) noS) ?_
  rintro n s (⟨rfl, rfl⟩|⟨rfl, rfl⟩|⟨rfl, rfl⟩|⟨rfl, rfl⟩|⟨rfl, rfl⟩)
  · all_goals refine awp_seq (awp_region (id := 3) ?_)
    all_goals refine awpOps_cons (op_lss rfl rfl rfl) ?_
    all_goals refine awpOps_nil ?_
    refine awp_seq (awp_cond rfl (fun h => ?_) (fun h => absurd h (by decide)))
    refine awp_skip ?_
    refine awp_seq (awp_block ?_)
    all_goals refine awp_seq (awp_region (id := 4) ?_)
    all_goals refine awpOps_cons (op_ix sl26 rfl rfl rfl (by omega) (rfl : [a, b, c, d][0]? = some a)) ?_
    all_goals refine awpOps_cons (op_ldr ty41 rfl rfl) ?_
    all_goals refine awpOps_cons (op_alloc (o := 8) z41 rfl rfl) ?_
    all_goals refine awpOps_cons (op_st ty41 rfl rfl (Conv.of rfl) rfl) ?_
    all_goals refine awpOps_nil ?_
    all_goals refine dr_start (id := 5) ?_
    all_goals refine dr_cons (op_fab f29_1_WrldA rfl rfl) ?_
    all_goals refine dr_cons (op_ld ty26_NRef rfl rfl rfl) ?_
    all_goals refine dr_cons (op_ld ty41 rfl rfl rfl) ?_
    all_goals refine dr_cons (op_call fb105 (.cons rfl (Conv.of rfl) (.nil _)) (nodeCopied_ct _ ha) (argOk rfl rfl argOk0) rfl rfl) ?_
    all_goals refine dr_cons (op_bsl sl26 z41 (.cons rfl (Conv.of rfl) (.nil _)) rfl (by decide) rfl) ?_
    all_goals refine dr_cons (op_apA (o' := 12) sl26 z41 ul26 rfl rfl rfl rfl (by simp) (by simp) (by simp) rfl) ?_
    all_goals refine dr_cons (op_fab f29_1_WrldA rfl rfl) ?_
    all_goals refine dr_cons (op_st ty26_NRef rfl rfl (Conv.of rfl) rfl) ?_
    all_goals refine dr_nil mixed rfl ?_
    all_goals refine awp_region (id := 6) ?_
    all_goals refine awpOps_cons (op_add rfl rfl rfl (by omega)) ?_
    all_goals refine awpOps_cons (op_mv rfl (Conv.of rfl) rfl) ?_
    all_goals refine awpOps_nil ?_
    repeat first | refine nx_seq ?_ | refine nx_block ?_
    exact ⟨3, _, by decide, .inr (.inl ⟨rfl, rfl⟩), Le.mk rfl (tlb rfl rfl rfl (tlb rfl rfl rfl (tle rfl (rfl) rfl (tle rfl (rfl) rfl (tle rfl (rfl) rfl tln))))) (olk rfl (by exact obOkW0) (olk rfl (by exact obOkW rfl) (olk rfl (by exact obOk_arr) oln))) noS⟩
  · all_goals refine awp_seq (awp_region (id := 3) ?_)
    all_goals refine awpOps_cons (op_lss rfl rfl rfl) ?_
    all_goals refine awpOps_nil ?_
    refine awp_seq (awp_cond rfl (fun h => ?_) (fun h => absurd h (by decide)))
    refine awp_skip ?_
    refine awp_seq (awp_block ?_)
    all_goals refine awp_seq (awp_region (id := 4) ?_)
    all_goals refine awpOps_cons (op_ix sl26 rfl rfl rfl (by omega) (rfl : [a, b, c, d][1]? = some b)) ?_
    all_goals refine awpOps_cons (op_ldr ty41 rfl rfl) ?_
    all_goals refine awpOps_cons (op_alloc (o := 8) z41 rfl rfl) ?_
    all_goals refine awpOps_cons (op_st ty41 rfl rfl (Conv.of rfl) rfl) ?_
    all_goals refine awpOps_nil ?_
    all_goals refine dr_start (id := 5) ?_
    all_goals refine dr_cons (op_fab f29_1_WrldA rfl rfl) ?_
    all_goals refine dr_cons (op_ld ty26_NRef rfl rfl rfl) ?_
    all_goals refine dr_cons (op_ld ty41 rfl rfl rfl) ?_
    all_goals refine dr_cons (op_call fb105 (.cons rfl (Conv.of rfl) (.nil _)) (nodeCopied_ct _ hb) (argOk rfl rfl argOk0) rfl rfl) ?_
    all_goals refine dr_cons (op_bsl sl26 z41 (.cons rfl (Conv.of rfl) (.nil _)) rfl (by decide) rfl) ?_
    all_goals refine dr_cons (op_apA (o' := 13) sl26 z41 ul26 rfl rfl rfl rfl (by simp) (by simp) (by simp) rfl) ?_
    all_goals refine dr_cons (op_fab f29_1_WrldA rfl rfl) ?_
    all_goals refine dr_cons (op_st ty26_NRef rfl rfl (Conv.of rfl) rfl) ?_
    all_goals refine dr_nil mixed rfl ?_
    all_goals refine awp_region (id := 6) ?_
    all_goals refine awpOps_cons (op_add rfl rfl rfl (by omega)) ?_
    all_goals refine awpOps_cons (op_mv rfl (Conv.of rfl) rfl) ?_
    all_goals refine awpOps_nil ?_
    repeat first | refine nx_seq ?_ | refine nx_block ?_
    exact ⟨2, _, by decide, .inr (.inr (.inl ⟨rfl, rfl⟩)), Le.mk rfl (tlb rfl rfl rfl (tlb rfl rfl rfl (tle rfl (rfl) rfl (tle rfl (rfl) rfl (tle rfl (rfl) rfl tln))))) (olk rfl (by exact obOkW0) (olk rfl (by exact obOkW rfl) (olk rfl (by exact obOk_arr) oln))) noS⟩
  · all_goals refine awp_seq (awp_region (id := 3) ?_)
    all_goals refine awpOps_cons (op_lss rfl rfl rfl) ?_
    all_goals refine awpOps_nil ?_
    refine awp_seq (awp_cond rfl (fun h => ?_) (fun h => absurd h (by decide)))
    refine awp_skip ?_
    refine awp_seq (awp_block ?_)
    all_goals refine awp_seq (awp_region (id := 4) ?_)
    all_goals refine awpOps_cons (op_ix sl26 rfl rfl rfl (by omega) (rfl : [a, b, c, d][2]? = some c)) ?_
    all_goals refine awpOps_cons (op_ldr ty41 rfl rfl) ?_
    all_goals refine awpOps_cons (op_alloc (o := 8) z41 rfl rfl) ?_
    all_goals refine awpOps_cons (op_st ty41 rfl rfl (Conv.of rfl) rfl) ?_
    all_goals refine awpOps_nil ?_
    all_goals refine dr_start (id := 5) ?_
    all_goals refine dr_cons (op_fab f29_1_WrldA rfl rfl) ?_
    all_goals refine dr_cons (op_ld ty26_NRef rfl rfl rfl) ?_
    all_goals refine dr_cons (op_ld ty41 rfl rfl rfl) ?_
    all_goals refine dr_cons (op_call fb105 (.cons rfl (Conv.of rfl) (.nil _)) (nodeCopied_ct _ hc) (argOk rfl rfl argOk0) rfl rfl) ?_
    all_goals refine dr_cons (op_bsl sl26 z41 (.cons rfl (Conv.of rfl) (.nil _)) rfl (by decide) rfl) ?_
    all_goals refine dr_cons (op_apA (o' := 14) sl26 z41 ul26 rfl rfl rfl rfl (by simp) (by simp) (by simp) rfl) ?_
    all_goals refine dr_cons (op_fab f29_1_WrldA rfl rfl) ?_
    all_goals refine dr_cons (op_st ty26_NRef rfl rfl (Conv.of rfl) rfl) ?_
    all_goals refine dr_nil mixed rfl ?_
    all_goals refine awp_region (id := 6) ?_
    all_goals refine awpOps_cons (op_add rfl rfl rfl (by omega)) ?_
    all_goals refine awpOps_cons (op_mv rfl (Conv.of rfl) rfl) ?_
    all_goals refine awpOps_nil ?_
    repeat first | refine nx_seq ?_ | refine nx_block ?_
    exact ⟨1, _, by decide, .inr (.inr (.inr (.inl ⟨rfl, rfl⟩))), Le.mk rfl (tlb rfl rfl rfl (tlb rfl rfl rfl (tle rfl (rfl) rfl (tle rfl (rfl) rfl (tle rfl (rfl) rfl tln))))) (olk rfl (by exact obOkW0) (olk rfl (by exact obOkW rfl) (olk rfl (by exact obOk_arr) oln))) noS⟩
  · all_goals refine awp_seq (awp_region (id := 3) ?_)
    all_goals refine awpOps_cons (op_lss rfl rfl rfl) ?_
    all_goals refine awpOps_nil ?_
    refine awp_seq (awp_cond rfl (fun h => ?_) (fun h => absurd h (by decide)))
    refine awp_skip ?_
    refine awp_seq (awp_block ?_)
    all_goals refine awp_seq (awp_region (id := 4) ?_)
    all_goals refine awpOps_cons (op_ix sl26 rfl rfl rfl (by omega) (rfl : [a, b, c, d][3]? = some d)) ?_
    all_goals refine awpOps_cons (op_ldr ty41 rfl rfl) ?_
    all_goals refine awpOps_cons (op_alloc (o := 8) z41 rfl rfl) ?_
    all_goals refine awpOps_cons (op_st ty41 rfl rfl (Conv.of rfl) rfl) ?_
    all_goals refine awpOps_nil ?_
    all_goals refine dr_start (id := 5) ?_
    all_goals refine dr_cons (op_fab f29_1_WrldA rfl rfl) ?_
    all_goals refine dr_cons (op_ld ty26_NRef rfl rfl rfl) ?_
    all_goals refine dr_cons (op_ld ty41 rfl rfl rfl) ?_
    all_goals refine dr_cons (op_call fb105 (.cons rfl (Conv.of rfl) (.nil _)) (nodeCopied_ct _ hd) (argOk rfl rfl argOk0) rfl rfl) ?_
    all_goals refine dr_cons (op_bsl sl26 z41 (.cons rfl (Conv.of rfl) (.nil _)) rfl (by decide) rfl) ?_
    all_goals refine dr_cons (op_apA (o' := 1) sl26 z41 ul26 rfl rfl rfl rfl (by simp) (by simp) (by simp) rfl) ?_
    all_goals refine dr_cons (op_fab f29_1_WrldA rfl rfl) ?_
    all_goals refine dr_cons (op_st ty26_NRef rfl rfl (Conv.of rfl) rfl) ?_
    all_goals refine dr_nil mixed rfl ?_
    all_goals refine awp_region (id := 6) ?_
    all_goals refine awpOps_cons (op_add rfl rfl rfl (by omega)) ?_
    all_goals refine awpOps_cons (op_mv rfl (Conv.of rfl) rfl) ?_
    all_goals refine awpOps_nil ?_
    repeat first | refine nx_seq ?_ | refine nx_block ?_
    exact ⟨0, _, by decide, .inr (.inr (.inr (.inr (⟨rfl, rfl⟩)))), Le.mk rfl (tlb rfl rfl rfl (tlb rfl rfl rfl (tle rfl (rfl) rfl (tle rfl (rfl) rfl (tle rfl (rfl) rfl tln))))) (olk rfl (by exact obOkW0) (olk rfl (by exact obOkW rfl) (olk rfl (by exact obOk_arr) oln))) noS⟩
  · all_goals refine awp_seq (awp_region (id := 3) ?_)
    all_goals refine awpOps_cons (op_lss rfl rfl rfl) ?_
    all_goals refine awpOps_nil ?_
    refine awp_seq (awp_cond rfl (fun h => absurd h (by decide)) (fun h => ?_))
    refine awp_exit ?_
    repeat refine ex_seq ?_
    refine ex_block ?_
    all_goals refine awp_seq (awp_region (id := 7) ?_)
    all_goals refine awpOps_cons (op_ld ty29_WrldA rfl rfl rfl) ?_
    all_goals refine awpOps_cons (op_st ty29_WrldA rfl rfl (Conv.of rfl) rfl) ?_
    all_goals refine awpOps_nil ?_
    refine awp_ret ?_
    repeat first | refine rt_seq ?_ | refine rt_block ?_
    refine ⟨_, _, res1 (ol := [(1, .arr [a, b, c, d])]) (.rc ty29_WrldA rfl rfl) (fun o ho => ?_) (olk rfl obOk_arr oln) noS, rfl, rfl⟩
    have : o = 1 := by simpa using (show o ∈ [1] from ho)
    subst this; rfl
end Go.Proofs.YtmdhfalfppkpeaaGreat

/- A play. -/
set_option linter.unusedVariables false
set_option linter.unusedSimpArgs false
namespace Go.Proofs.YtmdhfalfppkpeaaGreat
open Go Go.Wt
theorem copiedA_w (w : Wrld) (h : Fine w) : Ct Tryz.prog 56 [.v (wA w)] (obs [(1, .arr w.nodes)]) (fun r1 h1 => r1 = .v (WrldA.mk w.epoch (.ref 2) w.log w.bad) ∧ h1 = obs [(1, .arr w.nodes), (2, .arr w.nodes)]) := by
  obtain ⟨e, ns, l, bd⟩ := w
  have h4 := h.four
  have hs := h.seen
  match ns, h4, hs with
  | [a, b, c, d], _, hs => exact copiedA_ct e a b c d l bd h.log (hs a (by simp)) (hs b (by simp)) (hs c (by simp)) (hs d (by simp))
theorem copiedP_w (w : Wrld) (h : Fine w) : Ct Tryz.prog 56 [.v w] noObj (fun r1 h1 => r1 = .v (WrldA.mk w.epoch (.ref 1) w.log w.bad) ∧ h1 = obs [(1, .arr w.nodes)]) := by
  obtain ⟨e, ns, l, bd⟩ := w
  have h4 := h.four
  have hs := h.seen
  match ns, h4, hs with
  | [a, b, c, d], _, hs => exact copiedP_ct e a b c d l bd h.log (hs a (by simp)) (hs b (by simp)) (hs c (by simp)) (hs d (by simp))
end Go.Proofs.YtmdhfalfppkpeaaGreat
