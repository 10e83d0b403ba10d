/- Part 3 of the proof: texts one behind the other. -/
import Derived.Test.YtmhmeppocbcmeaaGreatM2
import Derived.Test.YtmhmeppocbcmeaaGreatProg
import Derived.KernelRfl
/- Parking of a world's room. -/
set_option linter.unusedVariables false
set_option linter.unusedSimpArgs false
namespace Go.Wt
open Go
variable {P : Program} {S : Nat → Prop} {ops : Array Oper} {st : St}
theorem parkCW_rd {G : Gh} {w : Go.World} {ω D : Owner} {e bd : Int} {nr : NRef} {l : List Vote} {cs : List Value} (h : Enc.rd G w ω (WrldS.mk e nr ⟨l, true⟩ bd) cs) :
    ∃ hv, Enc.rd (G.mv (Owner.sub ω [1, 1, 0]) D) w ω (WrldH.mk e nr ⟨l, hv⟩ bd) cs ∧ ∀ a k cap, hv = .slice a k cap → Tail (G.mv (Owner.sub ω [1, 1, 0]) D) w D a (k * Enc.size Vote) (cap * Enc.size Vote) := by
  obtain ⟨c1, c2, rfl, r1, ⟨c3, c4, rfl, r3, ⟨c5, c6, rfl, ⟨a, cap, h1, h2, h3, h4⟩, r6⟩⟩⟩ := h
  refine ⟨.slice a l.length cap, ⟨c1, _, rfl, r1, c3, _, rfl, Disl.mono Sh.mv (fun _ _ _ h => h) r3, c5, _, rfl, ⟨h1, a, cap, rfl, h2, h3.mono Sh.mv⟩, r6⟩, fun a' k cap' e => ?_⟩
  injection e with e1 e2 e3
  subst e1 e2 e3
  have := (h4 rfl).mono (Ow.mv_src (G := G) (w := w) (s := Owner.sub (Owner.sub (Owner.sub ω [1]) [1]) [0]) (d := D))
  simpa [Owner.sub] using this
theorem awp_parkCW {c : Code} {Q : Exit → St → Prop} {s o tb : Nat} {b : Bool} {e bd : Int} {nr : NRef} {l : List Vote} (hs : st.tm s = some (.v b)) (ho : st.ob o = .cell (WrldS.mk e nr ⟨l, true⟩ bd)) (htb : st.tm tb = some (.box o (IsLens.whole WrldS)))
    (k : ∀ hv, awp P S c Q (st.upd [(tb, some (.box o (IsLens.whole WrldH))), (s, some (.v (Room.mk (α := Vote) hv true)))] [(o, .cell (WrldH.mk e nr ⟨l, hv⟩ bd))])) : awp P S c Q st := fun G w a hr => by
  have hob := hr.objs o
  rw [ho] at hob
  obtain ⟨b', cs, e', k1, k2, k3, k4⟩ := hob
  obtain ⟨hv, p1, p2⟩ := parkCW_rd (D := (.tmp s, [])) k3
  have hts := hr.tmps s
  rw [hs] at hts
  have e2 : a.tmps.getD s undef = .bool b := RelV.bool hts
  have hk : Keep S G w (G.mv (.obj o, [1, 1, 0]) (.tmp s, [])) w := Keep.mv S (by simp) (by simp)
  refine wp_mono (k hv (G.mv (.obj o, [1, 1, 0]) (.tmp s, [])) w a ⟨hr.defers, hr.size, fun q => ?_, fun j => ?_⟩) fun e a'' w'' ⟨st'', G'', q1, q2, q3⟩ => ⟨st'', G'', q1, hk.trans q2, q3⟩
  · show RelT _ _ _ (orr (lk [(tb, _), (s, _)] q) (st.tm q)) (a.tmps.getD q undef)
    simp only [lk]
    by_cases eb : q = tb
    · subst eb
      rw [if_pos rfl]
      have := hr.tmps q
      rw [htb] at this
      exact this
    rw [if_neg eb]
    by_cases eq : q = s
    · subst eq
      rw [if_pos rfl, e2]
      exact ⟨[.bool b], ⟨⟨_, rfl, rfl⟩, fun _ a k cap e => p2 a k cap e⟩, rfl⟩
    · rw [if_neg eq]
      exact (hr.tmps q).mono Sh.mv (Ow.mv_other (by simp) (by simpa using eq)) (fun _ _ _ h => h)
  · show RelO _ _ j (orr (lk [(o, _)] j) (st.ob j))
    simp only [lk]
    by_cases ek : j = o
    · subst ek
      rw [if_pos rfl]
      exact ⟨b', cs, e', k1, k2, p1, fun i hi => by simp [Gh.mv, k4 i hi, relab]⟩
    · rw [if_neg ek]
      obtain ⟨T', hT⟩ := Obj.refs_all (st.ob j)
      exact (hr.objs j).pres Sh.mv (fun _ _ _ h => h) hT (PresO.mv (by simpa using Ne.symm ek) (by simp) (by simp) (by simp))
/-- A call that takes a world whose room is parked. -/
theorem op_callPW {d s r : Nat} {T pos aft} {f : FuncId} {post : List Operand} {av2 : List AV} {e bd : Int} {nr : NRef} {l : List Vote} {hv : Value} {ts : Array TypeId} {rt2 : List Nat} {ol ol' : List (Nat × Obj)} {res : AV}
    (hne : Nat.beq s r = false) (hB : fnB P f = true) (hs : st.tm s = some (.v (WrldH.mk e nr ⟨l, hv⟩ bd))) (hq : st.tm r = some (.v (Room.mk (α := Vote) hv true)))
    (ha2 : Args (st.upd [(s, some (.v (WrldS.mk e nr ⟨l, true⟩ bd))), (r, none), (r, none)] []) 0 post av2 rt2) (hct : CtO P f (.v (WrldS.mk e nr ⟨l, true⟩ bd) :: av2) ol res ol')
    (hol : OLs (st.upd [(s, some (.v (WrldS.mk e nr ⟨l, true⟩ bd))), (r, none), (r, none)] []) ol) (hok : OKs (keys ol) ol) (hok' : OKs (keys ol) ol') (hke : keysEq ol ol' = true)
    (hd2 : ∀ z ∈ av2, z.dis = z ∧ ∀ o ∈ z.refs, keys ol o = true) (her : ∀ o ∈ (AV.v (WrldS.mk e nr ⟨l, true⟩ bd)).refs, keys ol o = true) (hrr : ∀ o ∈ res.refs, keys ol o = true) (hn : Nat.blt d st.n = true) :
    OpOk P S ops ⟨some d, .call { callee := .value (.func f), args := (.tmp s :: post).toArray, argTypes := ts }, T, pos, aft, none⟩ ([s, r] ++ (s :: ([] ++ rt2))) (ol.map (·.1)) ([(d, some res), (s, some (AV.dis (.v (WrldS.mk e nr ⟨l, true⟩ bd))))] ++ [(s, some (.v (WrldS.mk e nr ⟨l, true⟩ bd))), (r, none), (r, none)]) ol' st := by
  refine OpOk.pre (oLM (pre := []) hB (.nil _) (by simp [St.upd, lk, orr]) ha2 hct hol hok hok' hke argO0 hd2 her hrr hn) ?_
  intro st1 hag G w a hr
  exact ⟨_, unparkW (s := r) (fun e => by rw [e] at hne; simp at hne) hr (by rw [hag.tm s (by simp)]; exact hs) (by rw [hag.tm r (by simp)]; exact hq), Keep.mv S (by simp) (by simp)⟩
/-- Between the parts of a region: a variable is seen in another way. -/
theorem recell {o tb : Nat} {α β : Type} [Enc α] [Enc β] {x : α} {y : β} (ho : st.ob o = .cell x) (htb : st.tm tb = some (.box o (IsLens.whole α)))
    (hc : ∀ (G : Gh) (w : Go.World) (ω : Owner) (cs : List Value), Enc.rd G w ω x cs → Enc.rd G w ω y cs) :
    ∀ G w a, RelSt G w a st → ∃ (_ : Unit) (G' : Gh), RelSt G' w a (st.upd [(tb, some (.box o (IsLens.whole β)))] [(o, .cell y)]) ∧ Keep S G w G' w := fun G w a hr => by
  have hob := hr.objs o
  rw [ho] at hob
  obtain ⟨b', cs, e, k1, k2, k3, k4⟩ := hob
  refine ⟨(), G, ⟨hr.defers, hr.size, fun q => ?_, fun j => ?_⟩, Keep.refl _ _ _⟩
  · show RelT _ _ _ (orr (lk [(tb, _)] q) (st.tm q)) (a.tmps.getD q undef)
    simp only [lk]
    by_cases eb : q = tb
    · subst eb
      rw [if_pos rfl]
      have := hr.tmps q
      rw [htb] at this
      exact this
    · rw [if_neg eb]
      exact hr.tmps q
  · show RelO _ _ j (orr (lk [(o, _)] j) (st.ob j))
    simp only [lk]
    by_cases ek : j = o
    · subst ek
      rw [if_pos rfl]
      exact ⟨b', cs, e, k1, k2, hc _ _ _ _ k3, k4⟩
    · rw [if_neg ek]
      exact hr.objs j
theorem wrlH_fW {G : Gh} {w : Go.World} {ω : Owner} {e bd : Int} {nr : NRef} {l : List Vote} {hv : Value} {cs : List Value} (h : Enc.rd G w ω (WrldH.mk e nr ⟨l, hv⟩ bd) cs) : Enc.rd G w ω (WrldS.mk e nr ⟨l, false⟩ bd) cs := by
  obtain ⟨c1, c2, rfl, r1, ⟨c3, c4, rfl, r3, ⟨c5, c6, rfl, ⟨e0, a, cap, h1, h2, h3⟩, r6⟩⟩⟩ := h
  exact ⟨c1, _, rfl, r1, c3, _, rfl, r3, c5, _, rfl, ⟨a, cap, by rw [e0, h1], h2, h3, fun h => by cases h⟩, r6⟩
/-! ### Quiet epochs in worlds in form -/
theorem brN_ok {w : Wrld} (h : FineX w) (a : Int) : ∀ k, FineX (brN w a k)
  | 0 => h
  | k + 1 => wbringF_ok (brN_ok h a k)
theorem b4_ok {w : Wrld} (h : FineX w) (a : Int) : FineX (b4 w a) := brN_ok h a 4
theorem sprF_ok : ∀ (n a : Nat) {w : Wrld}, FineX w → FineX (sprF n a w)
  | 0, _, _, h => h
  | n + 1, a, w, h => by
    simp only [sprF]
    split
    · exact sprF_ok n (a + 1) (b4_ok h a)
    · exact h
theorem spread_ok {w : Wrld} (h : FineX w) : FineX (spreadF w) := sprF_ok 100 0 h
theorem bring_ep (w : Wrld) (a id : Int) : (wbringF w a id).epoch = w.epoch := by
  unfold wbringF
  split
  · split
    · exact (putF_eb _ _ _).1
    · rfl
  · rfl
theorem sprF_ep' : ∀ (n a : Nat) (w : Wrld), (sprF n a w).epoch = w.epoch
  | 0, _, _ => rfl
  | n + 1, a, w => by
    simp only [sprF]
    split
    · rw [sprF_ep' n (a + 1) (b4 w a)]
      unfold b4
      rw [bring_ep, bring_ep, bring_ep, bring_ep]
    · rfl
theorem calm_ok {w : Wrld} (h : FineX w) (p : Pay) : FineX (calmF w p) := spread_ok (wproposeF_ok (spread_ok (tickF_ok h)))
theorem calmFold_ok : ∀ (l : List Pay) {w : Wrld}, FineX w → FineX (l.foldl calmF w)
  | [], _, h => h
  | p :: l, _, h => calmFold_ok l (calm_ok h p)
end Go.Wt

/- A part of a row that is written in place; a copy of one number into it. -/
set_option linter.unusedVariables false
set_option linter.unusedSimpArgs false
namespace Go.Wt
open Go
/-- A part of the row that is object `o`, from the element at `off` on, `n` long. -/
structure SRef where
  o : Nat
  off : Nat
  n : Nat
instance : Enc SRef where
  size := 1
  agg := false
  size_pos := by decide
  agg_size := fun _ => rfl
  rd := fun G _ _ r cs => ∃ b m c c', cs = [.slice (some ⟨b, r.off, none⟩) r.n c] ∧ G.hdr r.o = some (.slice (some ⟨b, 0, none⟩) m c') ∧ r.n ≤ c
  refs := fun r => [r.o]
  dis := fun r => r
  len := fun ⟨_, _, _, _, h, _⟩ => by rw [h]; rfl
  one := fun ⟨_, _, _, _, h, _⟩ c hc => by rw [h] at hc; simp at hc; rw [hc]; rfl
  mono := fun _ _ hm ⟨b, m, c, c', h1, h2, h3⟩ => ⟨b, m, c, c', h1, hm _ (by simp) _ h2, h3⟩
  mono_dis := fun _ hm ⟨b, m, c, c', h1, h2, h3⟩ => ⟨b, m, c, c', h1, hm _ (by simp) _ h2, h3⟩
instance : Disl SRef := ⟨fun _ => rfl⟩
variable {P : Program} {S : Nat → Prop} {ops : Array Oper} {st : St}
variable {d : Nat} {T pos aft} {x y z : Operand}
/-- The first number of what is copied from. -/
def Fst (st : St) (y : Operand) (rt ro : List Nat) (n : Nat) (v : Int) : Prop := ∀ st1, Agree rt ro st st1 → ∀ G w a, RelSt G w a st1 → ∃ ad c, a.eval y = .slice (some ad) n c ∧ w.cell? ad = some (.int .i64 v)
/-- Where is copied to. -/
def Dst (st : St) (x : Operand) (rt ro : List Nat) (o k n : Nat) : Prop := ∀ st1, Agree rt ro st st1 → ∀ G w a, RelSt G w a st1 → ∃ b c m c', a.eval x = .slice (some ⟨b, k, none⟩) n c ∧ G.hdr o = some (.slice (some ⟨b, 0, none⟩) m c')
end Go.Wt
namespace Go.Wt
open Go
variable {P : Program} {S : Nat → Prop} {ops : Array Oper} {st : St}
variable {d : Nat} {T t' : TypeId} {pos : String} {aft : Array Edge} {x y z : Operand}
/-! ### Numbers without a sign -/
structure UN where
  n : Int
instance : Enc UN := scalarEnc (fun n => .int .u64 n.n) (fun _ => rfl)
instance : Plain UN := ⟨fun _ => rfl, fun _ => rfl⟩
end Go.Wt
namespace Go.Wt
open Go
variable {P : Program} {S : Nat → Prop} {ops : Array Oper} {st : St} {d : Nat} {T : TypeId} {pos : String} {aft : Array Edge}
end Go.Wt
namespace Go.Wt
open Go
variable {P : Program} {S : Nat → Prop} {ops : Array Oper} {st : St}
variable {d : Nat} {T : TypeId} {pos : String} {aft : Array Edge} {x y z u : Operand}
end Go.Wt
namespace Go.Wt
/-! ### Books -/
def payF (b : List Int) (p : Pay) : List Int :=
  if p.sum ≤ b.getD (p.frm - 1).toNat 0 then
    (b.set (p.frm - 1).toNat (b.getD (p.frm - 1).toNat 0 - p.sum)).set (p.to - 1).toNat ((b.set (p.frm - 1).toNat (b.getD (p.frm - 1).toNat 0 - p.sum)).getD (p.to - 1).toNat 0 + p.sum)
  else b
def bookF (c : List Itm) : List Int := c.foldl (fun b x => payF b x.pay) [9, 9, 9]
def Bk (b : List Int) : Prop := ∃ x y z : Int, b = [x, y, z] ∧ 0 ≤ x ∧ 0 ≤ y ∧ 0 ≤ z ∧ x + y + z = 27
end Go.Wt
namespace Go.Wt
def psum (b : List Int) (k : Nat) : Int := (b.take k).foldl (fun (s v : Int) => s + v) 0
end Go.Wt

/- The reference's final chain. -/
set_option linter.unusedVariables false
set_option linter.unusedSimpArgs false
namespace Go.Wt
open Go
def finStepS (out c : List Itm) : List Itm := if decide ((out.length : Int) < finLen c) then c.take (finLen c).toNat else out
def finalS (l : List Vote) : List Itm := (allOfS l).foldl finStepS []
def nodeBookR (n : Nod) : List Int := if nodeOk n then bookF (finalOf n.seen) else []
end Go.Wt

/- Certificates, as the reference makes them. -/
set_option linter.unusedVariables false
set_option linter.unusedSimpArgs false
namespace Go.Wt
open Go
/-- Who voted, as the reference says it. -/
def vfS (l : List Vote) (c : List Itm) : List Int := if votesOk l then voters l c else []
def certBy (l : List Vote) (c : List Itm) (n : Nat) : List (List Int) := [vfS l (c.take (n - 1)), vfS l (c.take n), vfS l (c.take (n + 1))]
/-- The chain that a certificate is of. -/
def certFind (l : List Vote) : Option (List Itm) := (allOfS l).find? fun c => decide (finLen c = ((finalS l).length : Int)) && decide (0 < (finalS l).length)
def certS (l : List Vote) : Option (List Itm × List (List Int)) := if votesOk l then (certFind l).map fun c => (c.take ((finLen c).toNat + 1), certBy l c (finLen c).toNat) else none
/-- A certificate whose lists are an object. -/
structure CertN where
  chain : List Itm
  by_ : NRef
instance : Enc CertN := isoEnc (fun p => (p.chain, p.by_)) (fun q => ⟨q.1, q.2⟩) (fun _ => rfl) true (fun h => by cases h)
instance : Disl CertN := ⟨fun _ => rfl⟩
def CertN.zero : CertN := ⟨[], .nil⟩
instance : ZCells CertN .zero := ⟨ZCells.cs (List Itm × NRef), fun G w ω => ZCells.rd (α := List Itm × NRef) G w ω⟩
variable {S : Nat → Prop}
end Go.Wt

/- Facts of the types and functions of this seat, each by computation. -/
set_option linter.unusedVariables false
namespace Go.Proofs.YtmhmeppocbcmeaaGreat
open Go Go.Wt
theorem ty143 : TyOk Tryz.prog 143 (Itm) := ⟨by kernel_rfl⟩
theorem ty160 : TyOk Tryz.prog 160 (Nod) := ⟨by kernel_rfl⟩
theorem ty189 : TyOk Tryz.prog 189 (Itm) := ⟨by kernel_rfl⟩
theorem ty23 : TyOk Tryz.prog 23 (List Nod) := ⟨by kernel_rfl⟩
theorem ty23_NRef : TyOk Tryz.prog 23 (NRef) := ⟨by kernel_rfl⟩
theorem ty24 : TyOk Tryz.prog 24 (List Vote) := ⟨by kernel_rfl⟩
theorem ty24_HListVote : TyOk Tryz.prog 24 (HList Vote) := ⟨by kernel_rfl⟩
theorem ty24_OListVote : TyOk Tryz.prog 24 (OList Vote) := ⟨by kernel_rfl⟩
theorem ty26 : TyOk Tryz.prog 26 (Wrld) := ⟨by kernel_rfl⟩
theorem ty26_Wrld : TyOk Tryz.prog 26 (Wrld) := ⟨by kernel_rfl⟩
theorem ty26_WrldA : TyOk Tryz.prog 26 (WrldA) := ⟨by kernel_rfl⟩
theorem ty26_WrldH : TyOk Tryz.prog 26 (WrldH) := ⟨by kernel_rfl⟩
theorem ty26_WrldS : TyOk Tryz.prog 26 (WrldS) := ⟨by kernel_rfl⟩
theorem ty27 : TyOk Tryz.prog 27 (List Itm) := ⟨by kernel_rfl⟩
theorem ty27_CListItm : TyOk Tryz.prog 27 (CList Itm) := ⟨by kernel_rfl⟩
theorem ty3 : TyOk Tryz.prog 3 (Int) := ⟨by kernel_rfl⟩
theorem ty38 : TyOk Tryz.prog 38 (Vote) := ⟨by kernel_rfl⟩
theorem ty38_Vote : TyOk Tryz.prog 38 (Vote) := ⟨by kernel_rfl⟩
theorem ty52 : TyOk Tryz.prog 52 (List Nod) := ⟨by kernel_rfl⟩
theorem ty53 : TyOk Tryz.prog 53 (List Vote) := ⟨by kernel_rfl⟩
theorem ty55 : TyOk Tryz.prog 55 (Wrld) := ⟨by kernel_rfl⟩
theorem ty67 : TyOk Tryz.prog 67 (Pay) := ⟨by kernel_rfl⟩
theorem ty68 : TyOk Tryz.prog 68 (List Itm) := ⟨by kernel_rfl⟩
theorem ty70 : TyOk Tryz.prog 70 (Vote) := ⟨by kernel_rfl⟩
theorem ty72 : TyOk Tryz.prog 72 (Evt) := ⟨by kernel_rfl⟩
theorem ty75 : TyOk Tryz.prog 75 (Pay) := ⟨by kernel_rfl⟩
theorem ty77 : TyOk Tryz.prog 77 (Evt) := ⟨by kernel_rfl⟩
theorem ty90 : TyOk Tryz.prog 90 (Nod) := ⟨by kernel_rfl⟩
theorem ty90_NodC : TyOk Tryz.prog 90 (NodC) := ⟨by kernel_rfl⟩
theorem ty90_NodH : TyOk Tryz.prog 90 (NodH) := ⟨by kernel_rfl⟩
theorem ty90_NodR : TyOk Tryz.prog 90 (NodR) := ⟨by kernel_rfl⟩
theorem ty90_NodS : TyOk Tryz.prog 90 (NodS) := ⟨by kernel_rfl⟩
theorem z143 : ZeroOk Tryz.prog 143 Itm.zero := zero_mk (by kernel_rfl)
theorem z26 : ZeroOk Tryz.prog 26 Wrld.zero := zero_mk (by kernel_rfl)
theorem z26_WrldA : ZeroOk Tryz.prog 26 WrldA.zero := zero_mk (by kernel_rfl)
theorem z26_WrldH : ZeroOk Tryz.prog 26 WrldH.zero := zero_mk (by kernel_rfl)
theorem z26_WrldS : ZeroOk Tryz.prog 26 WrldS.zero := zero_mk (by kernel_rfl)
theorem z27 : ZeroOk Tryz.prog 27 ([] : List Itm) := zero_mk (by kernel_rfl)
theorem z27_CListItm : ZeroOk Tryz.prog 27 (CList.mk [] : CList Itm) := zero_mk (by kernel_rfl)
theorem z3 : ZeroOk Tryz.prog 3 (0 : Int) := zero_mk (by kernel_rfl)
theorem z38 : ZeroOk Tryz.prog 38 Vote.zero := zero_mk (by kernel_rfl)
theorem z4 : ZeroOk Tryz.prog 4 false := zero_mk (by kernel_rfl)
theorem z5 : ZeroOk Tryz.prog 5 (0 : UInt8) := zero_mk (by kernel_rfl)
theorem z75 : ZeroOk Tryz.prog 75 Pay.zero := zero_mk (by kernel_rfl)
theorem z77 : ZeroOk Tryz.prog 77 Evt.zero := zero_mk (by kernel_rfl)
theorem z90 : ZeroOk Tryz.prog 90 Nod.zero := zero_mk (by kernel_rfl)
theorem z90_NodC : ZeroOk Tryz.prog 90 NodC.zero := zero_mk (by kernel_rfl)
theorem z90_NodR : ZeroOk Tryz.prog 90 NodR.zero := zero_mk (by kernel_rfl)
theorem z90_NodS : ZeroOk Tryz.prog 90 NodS.zero := zero_mk (by kernel_rfl)
theorem f143_0 : FldOk Tryz.prog 143 0 Itm.epoch (fun x y => { x with epoch := y }) 0 [0] := ⟨Itm.l0, by kernel_rfl⟩
theorem f143_1 : FldOk Tryz.prog 143 1 Itm.pay (fun x y => { x with pay := y }) 1 [1] := ⟨Itm.l1, by kernel_rfl⟩
theorem f160_0 : FldOk Tryz.prog 160 0 Nod.id (fun x y => { x with id := y }) 0 [0] := ⟨Nod.l0, by kernel_rfl⟩
theorem f160_1 : FldOk Tryz.prog 160 1 Nod.epoch (fun x y => { x with epoch := y }) 1 [1, 0] := ⟨Nod.l1, by kernel_rfl⟩
theorem f160_2 : FldOk Tryz.prog 160 2 Nod.voted (fun x y => { x with voted := y }) 2 [1, 1, 0] := ⟨Nod.l2, by kernel_rfl⟩
theorem f160_3 : FldOk Tryz.prog 160 3 Nod.seen (fun x y => { x with seen := y }) 3 [1, 1, 1] := ⟨Nod.l3, by kernel_rfl⟩
theorem f189_0 : FldOk Tryz.prog 189 0 Itm.epoch (fun x y => { x with epoch := y }) 0 [0] := ⟨Itm.l0, by kernel_rfl⟩
theorem f189_1 : FldOk Tryz.prog 189 1 Itm.pay (fun x y => { x with pay := y }) 1 [1] := ⟨Itm.l1, by kernel_rfl⟩
theorem f26_0 : FldOk Tryz.prog 26 0 Wrld.epoch (fun x y => { x with epoch := y }) 0 [0] := ⟨Wrld.l0, by kernel_rfl⟩
theorem f26_0_WrldA : FldOk Tryz.prog 26 0 WrldA.epoch (fun x y => { x with epoch := y }) 0 [0] := ⟨WrldA.l0, by kernel_rfl⟩
theorem f26_0_WrldH : FldOk Tryz.prog 26 0 WrldH.epoch (fun x y => { x with epoch := y }) 0 [0] := ⟨WrldH.l0, by kernel_rfl⟩
theorem f26_0_WrldS : FldOk Tryz.prog 26 0 WrldS.epoch (fun x y => { x with epoch := y }) 0 [0] := ⟨WrldS.l0, by kernel_rfl⟩
theorem f26_1 : FldOk Tryz.prog 26 1 Wrld.nodes (fun x y => { x with nodes := y }) 1 [1, 0] := ⟨Wrld.l1, by kernel_rfl⟩
theorem f26_1_WrldA : FldOk Tryz.prog 26 1 WrldA.nodes (fun x y => { x with nodes := y }) 1 [1, 0] := ⟨WrldA.l1, by kernel_rfl⟩
theorem f26_1_WrldS : FldOk Tryz.prog 26 1 WrldS.nodes (fun x y => { x with nodes := y }) 1 [1, 0] := ⟨WrldS.l1, by kernel_rfl⟩
theorem f26_2 : FldOk Tryz.prog 26 2 Wrld.log (fun x y => { x with log := y }) 2 [1, 1, 0] := ⟨Wrld.l2, by kernel_rfl⟩
theorem f26_2_WrldA : FldOk Tryz.prog 26 2 WrldA.log (fun x y => { x with log := y }) 2 [1, 1, 0] := ⟨WrldA.l2, by kernel_rfl⟩
theorem f26_2_WrldH : FldOk Tryz.prog 26 2 WrldH.log (fun x y => { x with log := y }) 2 [1, 1, 0] := ⟨WrldH.l2, by kernel_rfl⟩
theorem f26_2_WrldS : FldOk Tryz.prog 26 2 WrldS.log (fun x y => { x with log := y }) 2 [1, 1, 0] := ⟨WrldS.l2, by kernel_rfl⟩
theorem f26_3 : FldOk Tryz.prog 26 3 Wrld.bad (fun x y => { x with bad := y }) 3 [1, 1, 1] := ⟨Wrld.l3, by kernel_rfl⟩
theorem f26_3_WrldA : FldOk Tryz.prog 26 3 WrldA.bad (fun x y => { x with bad := y }) 3 [1, 1, 1] := ⟨WrldA.l3, by kernel_rfl⟩
theorem f26_3_WrldH : FldOk Tryz.prog 26 3 WrldH.bad (fun x y => { x with bad := y }) 3 [1, 1, 1] := ⟨WrldH.l3, by kernel_rfl⟩
theorem f26_3_WrldS : FldOk Tryz.prog 26 3 WrldS.bad (fun x y => { x with bad := y }) 3 [1, 1, 1] := ⟨WrldS.l3, by kernel_rfl⟩
theorem f38_0 : FldOk Tryz.prog 38 0 Vote.by_ (fun x y => { x with by_ := y }) 0 [0] := ⟨Vote.l0, by kernel_rfl⟩
theorem f38_1 : FldOk Tryz.prog 38 1 Vote.chain (fun x y => { x with chain := y }) 1 [1] := ⟨Vote.l1, by kernel_rfl⟩
theorem f55_0 : FldOk Tryz.prog 55 0 Wrld.epoch (fun x y => { x with epoch := y }) 0 [0] := ⟨Wrld.l0, by kernel_rfl⟩
theorem f55_1 : FldOk Tryz.prog 55 1 Wrld.nodes (fun x y => { x with nodes := y }) 1 [1, 0] := ⟨Wrld.l1, by kernel_rfl⟩
theorem f55_2 : FldOk Tryz.prog 55 2 Wrld.log (fun x y => { x with log := y }) 2 [1, 1, 0] := ⟨Wrld.l2, by kernel_rfl⟩
theorem f55_3 : FldOk Tryz.prog 55 3 Wrld.bad (fun x y => { x with bad := y }) 3 [1, 1, 1] := ⟨Wrld.l3, by kernel_rfl⟩
theorem f67_0 : FldOk Tryz.prog 67 0 Pay.frm (fun x y => { x with frm := y }) 0 [0] := ⟨Pay.l0, by kernel_rfl⟩
theorem f67_1 : FldOk Tryz.prog 67 1 Pay.to (fun x y => { x with to := y }) 1 [1, 0] := ⟨Pay.l1, by kernel_rfl⟩
theorem f67_2 : FldOk Tryz.prog 67 2 Pay.sum (fun x y => { x with sum := y }) 2 [1, 1] := ⟨Pay.l2, by kernel_rfl⟩
theorem f70_0 : FldOk Tryz.prog 70 0 Vote.by_ (fun x y => { x with by_ := y }) 0 [0] := ⟨Vote.l0, by kernel_rfl⟩
theorem f70_1 : FldOk Tryz.prog 70 1 Vote.chain (fun x y => { x with chain := y }) 1 [1] := ⟨Vote.l1, by kernel_rfl⟩
theorem f72_0 : FldOk Tryz.prog 72 0 Evt.kind (fun x y => { x with kind := y }) 0 [0] := ⟨Evt.l0, by kernel_rfl⟩
theorem f72_1 : FldOk Tryz.prog 72 1 Evt.a (fun x y => { x with a := y }) 1 [1, 0] := ⟨Evt.l1, by kernel_rfl⟩
theorem f72_2 : FldOk Tryz.prog 72 2 Evt.b (fun x y => { x with b := y }) 2 [1, 1, 0] := ⟨Evt.l2, by kernel_rfl⟩
theorem f72_3 : FldOk Tryz.prog 72 3 Evt.pay (fun x y => { x with pay := y }) 3 [1, 1, 1, 0] := ⟨Evt.l3, by kernel_rfl⟩
theorem f72_4 : FldOk Tryz.prog 72 4 Evt.vote (fun x y => { x with vote := y }) 6 [1, 1, 1, 1] := ⟨Evt.l4, by kernel_rfl⟩
theorem f75_0 : FldOk Tryz.prog 75 0 Pay.frm (fun x y => { x with frm := y }) 0 [0] := ⟨Pay.l0, by kernel_rfl⟩
theorem f75_1 : FldOk Tryz.prog 75 1 Pay.to (fun x y => { x with to := y }) 1 [1, 0] := ⟨Pay.l1, by kernel_rfl⟩
theorem f75_2 : FldOk Tryz.prog 75 2 Pay.sum (fun x y => { x with sum := y }) 2 [1, 1] := ⟨Pay.l2, by kernel_rfl⟩
theorem f77_0 : FldOk Tryz.prog 77 0 Evt.kind (fun x y => { x with kind := y }) 0 [0] := ⟨Evt.l0, by kernel_rfl⟩
theorem f77_1 : FldOk Tryz.prog 77 1 Evt.a (fun x y => { x with a := y }) 1 [1, 0] := ⟨Evt.l1, by kernel_rfl⟩
theorem f77_2 : FldOk Tryz.prog 77 2 Evt.b (fun x y => { x with b := y }) 2 [1, 1, 0] := ⟨Evt.l2, by kernel_rfl⟩
theorem f77_3 : FldOk Tryz.prog 77 3 Evt.pay (fun x y => { x with pay := y }) 3 [1, 1, 1, 0] := ⟨Evt.l3, by kernel_rfl⟩
theorem f77_4 : FldOk Tryz.prog 77 4 Evt.vote (fun x y => { x with vote := y }) 6 [1, 1, 1, 1] := ⟨Evt.l4, by kernel_rfl⟩
theorem f90_0 : FldOk Tryz.prog 90 0 Nod.id (fun x y => { x with id := y }) 0 [0] := ⟨Nod.l0, by kernel_rfl⟩
theorem f90_0_NodC : FldOk Tryz.prog 90 0 NodC.id (fun x y => { x with id := y }) 0 [0] := ⟨NodC.l0, by kernel_rfl⟩
theorem f90_0_NodS : FldOk Tryz.prog 90 0 NodS.id (fun x y => { x with id := y }) 0 [0] := ⟨NodS.l0, by kernel_rfl⟩
theorem f90_1 : FldOk Tryz.prog 90 1 Nod.epoch (fun x y => { x with epoch := y }) 1 [1, 0] := ⟨Nod.l1, by kernel_rfl⟩
theorem f90_1_NodS : FldOk Tryz.prog 90 1 NodS.epoch (fun x y => { x with epoch := y }) 1 [1, 0] := ⟨NodS.l1, by kernel_rfl⟩
theorem f90_2 : FldOk Tryz.prog 90 2 Nod.voted (fun x y => { x with voted := y }) 2 [1, 1, 0] := ⟨Nod.l2, by kernel_rfl⟩
theorem f90_2_NodS : FldOk Tryz.prog 90 2 NodS.voted (fun x y => { x with voted := y }) 2 [1, 1, 0] := ⟨NodS.l2, by kernel_rfl⟩
theorem f90_3 : FldOk Tryz.prog 90 3 Nod.seen (fun x y => { x with seen := y }) 3 [1, 1, 1] := ⟨Nod.l3, by kernel_rfl⟩
theorem f90_3_NodC : FldOk Tryz.prog 90 3 NodC.seen (fun x y => { x with seen := y }) 3 [1, 1, 1] := ⟨NodC.l3, by kernel_rfl⟩
theorem f90_3_NodH : FldOk Tryz.prog 90 3 NodH.seen (fun x y => { x with seen := y }) 3 [1, 1, 1] := ⟨NodH.l3, by kernel_rfl⟩
theorem f90_3_NodS : FldOk Tryz.prog 90 3 NodS.seen (fun x y => { x with seen := y }) 3 [1, 1, 1] := ⟨NodS.l3, by kernel_rfl⟩
theorem sl133 : SlOk Tryz.prog 133 27 24 (List Itm) := ⟨by kernel_rfl, ty27⟩
theorem sl133_CListItm : SlOk Tryz.prog 133 27 24 (CList Itm) := ⟨by kernel_rfl, ty27_CListItm⟩
theorem sl141 : SlOk Tryz.prog 141 38 32 (Vote) := ⟨by kernel_rfl, ty38⟩
theorem sl141_Vote : SlOk Tryz.prog 141 38 32 (Vote) := ⟨by kernel_rfl, ty38_Vote⟩
theorem sl23 : SlOk Tryz.prog 23 90 48 (Nod) := ⟨by kernel_rfl, ty90⟩
theorem sl23_NodC : SlOk Tryz.prog 23 90 48 (NodC) := ⟨by kernel_rfl, ty90_NodC⟩
theorem sl23_NodS : SlOk Tryz.prog 23 90 48 (NodS) := ⟨by kernel_rfl, ty90_NodS⟩
theorem sl24 : SlOk Tryz.prog 24 38 32 (Vote) := ⟨by kernel_rfl, ty38⟩
theorem sl24_Vote : SlOk Tryz.prog 24 38 32 (Vote) := ⟨by kernel_rfl, ty38_Vote⟩
theorem sl27 : SlOk Tryz.prog 27 143 32 (Itm) := ⟨by kernel_rfl, ty143⟩
theorem sl41 : SlOk Tryz.prog 41 72 80 (Evt) := ⟨by kernel_rfl, ty72⟩
theorem sl45 : SlOk Tryz.prog 45 77 80 (Evt) := ⟨by kernel_rfl, ty77⟩
theorem sl52 : SlOk Tryz.prog 52 160 48 (Nod) := ⟨by kernel_rfl, ty160⟩
theorem sl53 : SlOk Tryz.prog 53 70 32 (Vote) := ⟨by kernel_rfl, ty70⟩
theorem sl56 : SlOk Tryz.prog 56 67 24 (Pay) := ⟨by kernel_rfl, ty67⟩
theorem sl61 : SlOk Tryz.prog 61 75 24 (Pay) := ⟨by kernel_rfl, ty75⟩
theorem sl68 : SlOk Tryz.prog 68 189 32 (Itm) := ⟨by kernel_rfl, ty189⟩
theorem sl93 : SlOk Tryz.prog 93 3 8 (Int) := ⟨by kernel_rfl, ty3⟩
theorem fb10 : fnB Tryz.prog 10 = true := by kernel_rfl
theorem fb100 : fnB Tryz.prog 100 = true := by kernel_rfl
theorem fb101 : fnB Tryz.prog 101 = true := by kernel_rfl
theorem fb102 : fnB Tryz.prog 102 = true := by kernel_rfl
theorem fb103 : fnB Tryz.prog 103 = true := by kernel_rfl
theorem fb104 : fnB Tryz.prog 104 = true := by kernel_rfl
theorem fb106 : fnB Tryz.prog 106 = true := by kernel_rfl
theorem fb107 : fnB Tryz.prog 107 = true := by kernel_rfl
theorem fb108 : fnB Tryz.prog 108 = true := by kernel_rfl
theorem fb109 : fnB Tryz.prog 109 = true := by kernel_rfl
theorem fb110 : fnB Tryz.prog 110 = true := by kernel_rfl
theorem fb112 : fnB Tryz.prog 112 = true := by kernel_rfl
theorem fb113 : fnB Tryz.prog 113 = true := by kernel_rfl
theorem fb114 : fnB Tryz.prog 114 = true := by kernel_rfl
theorem fb116 : fnB Tryz.prog 116 = true := by kernel_rfl
theorem fb117 : fnB Tryz.prog 117 = true := by kernel_rfl
theorem fb118 : fnB Tryz.prog 118 = true := by kernel_rfl
theorem fb119 : fnB Tryz.prog 119 = true := by kernel_rfl
theorem fb120 : fnB Tryz.prog 120 = true := by kernel_rfl
theorem fb121 : fnB Tryz.prog 121 = true := by kernel_rfl
theorem fb122 : fnB Tryz.prog 122 = true := by kernel_rfl
theorem fb123 : fnB Tryz.prog 123 = true := by kernel_rfl
theorem fb124 : fnB Tryz.prog 124 = true := by kernel_rfl
theorem fb125 : fnB Tryz.prog 125 = true := by kernel_rfl
theorem fb126 : fnB Tryz.prog 126 = true := by kernel_rfl
theorem fb127 : fnB Tryz.prog 127 = true := by kernel_rfl
theorem fb128 : fnB Tryz.prog 128 = true := by kernel_rfl
theorem fb129 : fnB Tryz.prog 129 = true := by kernel_rfl
theorem fb130 : fnB Tryz.prog 130 = true := by kernel_rfl
theorem fb131 : fnB Tryz.prog 131 = true := by kernel_rfl
theorem fb132 : fnB Tryz.prog 132 = true := by kernel_rfl
theorem fb133 : fnB Tryz.prog 133 = true := by kernel_rfl
theorem fb134 : fnB Tryz.prog 134 = true := by kernel_rfl
theorem fb135 : fnB Tryz.prog 135 = true := by kernel_rfl
theorem fb136 : fnB Tryz.prog 136 = true := by kernel_rfl
theorem fb137 : fnB Tryz.prog 137 = true := by kernel_rfl
theorem fb138 : fnB Tryz.prog 138 = true := by kernel_rfl
theorem fb139 : fnB Tryz.prog 139 = true := by kernel_rfl
theorem fb14 : fnB Tryz.prog 14 = true := by kernel_rfl
theorem fb140 : fnB Tryz.prog 140 = true := by kernel_rfl
theorem fb142 : fnB Tryz.prog 142 = true := by kernel_rfl
theorem fb143 : fnB Tryz.prog 143 = true := by kernel_rfl
theorem fb146 : fnB Tryz.prog 146 = true := by kernel_rfl
theorem fb149 : fnB Tryz.prog 149 = true := by kernel_rfl
theorem fb15 : fnB Tryz.prog 15 = true := by kernel_rfl
theorem fb150 : fnB Tryz.prog 150 = true := by kernel_rfl
theorem fb151 : fnB Tryz.prog 151 = true := by kernel_rfl
theorem fb152 : fnB Tryz.prog 152 = true := by kernel_rfl
theorem fb153 : fnB Tryz.prog 153 = true := by kernel_rfl
theorem fb154 : fnB Tryz.prog 154 = true := by kernel_rfl
theorem fb155 : fnB Tryz.prog 155 = true := by kernel_rfl
theorem fb156 : fnB Tryz.prog 156 = true := by kernel_rfl
theorem fb157 : fnB Tryz.prog 157 = true := by kernel_rfl
theorem fb158 : fnB Tryz.prog 158 = true := by kernel_rfl
theorem fb159 : fnB Tryz.prog 159 = true := by kernel_rfl
theorem fb16 : fnB Tryz.prog 16 = true := by kernel_rfl
theorem fb160 : fnB Tryz.prog 160 = true := by kernel_rfl
theorem fb161 : fnB Tryz.prog 161 = true := by kernel_rfl
theorem fb162 : fnB Tryz.prog 162 = true := by kernel_rfl
theorem fb163 : fnB Tryz.prog 163 = true := by kernel_rfl
theorem fb164 : fnB Tryz.prog 164 = true := by kernel_rfl
theorem fb166 : fnB Tryz.prog 166 = true := by kernel_rfl
theorem fb167 : fnB Tryz.prog 167 = true := by kernel_rfl
theorem fb168 : fnB Tryz.prog 168 = true := by kernel_rfl
theorem fb169 : fnB Tryz.prog 169 = true := by kernel_rfl
theorem fb17 : fnB Tryz.prog 17 = true := by kernel_rfl
theorem fb170 : fnB Tryz.prog 170 = true := by kernel_rfl
theorem fb171 : fnB Tryz.prog 171 = true := by kernel_rfl
theorem fb172 : fnB Tryz.prog 172 = true := by kernel_rfl
theorem fb173 : fnB Tryz.prog 173 = true := by kernel_rfl
theorem fb174 : fnB Tryz.prog 174 = true := by kernel_rfl
theorem fb175 : fnB Tryz.prog 175 = true := by kernel_rfl
theorem fb176 : fnB Tryz.prog 176 = true := by kernel_rfl
theorem fb177 : fnB Tryz.prog 177 = true := by kernel_rfl
theorem fb178 : fnB Tryz.prog 178 = true := by kernel_rfl
theorem fb179 : fnB Tryz.prog 179 = true := by kernel_rfl
theorem fb18 : fnB Tryz.prog 18 = true := by kernel_rfl
theorem fb180 : fnB Tryz.prog 180 = true := by kernel_rfl
theorem fb181 : fnB Tryz.prog 181 = true := by kernel_rfl
theorem fb182 : fnB Tryz.prog 182 = true := by kernel_rfl
theorem fb19 : fnB Tryz.prog 19 = true := by kernel_rfl
theorem fb20 : fnB Tryz.prog 20 = true := by kernel_rfl
theorem fb21 : fnB Tryz.prog 21 = true := by kernel_rfl
theorem fb22 : fnB Tryz.prog 22 = true := by kernel_rfl
theorem fb23 : fnB Tryz.prog 23 = true := by kernel_rfl
theorem fb24 : fnB Tryz.prog 24 = true := by kernel_rfl
theorem fb25 : fnB Tryz.prog 25 = true := by kernel_rfl
theorem fb26 : fnB Tryz.prog 26 = true := by kernel_rfl
theorem fb27 : fnB Tryz.prog 27 = true := by kernel_rfl
theorem fb28 : fnB Tryz.prog 28 = true := by kernel_rfl
theorem fb29 : fnB Tryz.prog 29 = true := by kernel_rfl
theorem fb30 : fnB Tryz.prog 30 = true := by kernel_rfl
theorem fb31 : fnB Tryz.prog 31 = true := by kernel_rfl
theorem fb32 : fnB Tryz.prog 32 = true := by kernel_rfl
theorem fb33 : fnB Tryz.prog 33 = true := by kernel_rfl
theorem fb34 : fnB Tryz.prog 34 = true := by kernel_rfl
theorem fb35 : fnB Tryz.prog 35 = true := by kernel_rfl
theorem fb36 : fnB Tryz.prog 36 = true := by kernel_rfl
theorem fb43 : fnB Tryz.prog 43 = true := by kernel_rfl
theorem fb44 : fnB Tryz.prog 44 = true := by kernel_rfl
theorem fb46 : fnB Tryz.prog 46 = true := by kernel_rfl
theorem fb48 : fnB Tryz.prog 48 = true := by kernel_rfl
theorem fb50 : fnB Tryz.prog 50 = true := by kernel_rfl
theorem fb51 : fnB Tryz.prog 51 = true := by kernel_rfl
theorem fb52 : fnB Tryz.prog 52 = true := by kernel_rfl
theorem fb53 : fnB Tryz.prog 53 = true := by kernel_rfl
theorem fb58 : fnB Tryz.prog 58 = true := by kernel_rfl
theorem fb60 : fnB Tryz.prog 60 = true := by kernel_rfl
theorem fb62 : fnB Tryz.prog 62 = true := by kernel_rfl
theorem fb63 : fnB Tryz.prog 63 = true := by kernel_rfl
theorem fb64 : fnB Tryz.prog 64 = true := by kernel_rfl
theorem fb65 : fnB Tryz.prog 65 = true := by kernel_rfl
theorem fb66 : fnB Tryz.prog 66 = true := by kernel_rfl
theorem fb67 : fnB Tryz.prog 67 = true := by kernel_rfl
theorem fb68 : fnB Tryz.prog 68 = true := by kernel_rfl
theorem fb72 : fnB Tryz.prog 72 = true := by kernel_rfl
theorem fb73 : fnB Tryz.prog 73 = true := by kernel_rfl
theorem fb74 : fnB Tryz.prog 74 = true := by kernel_rfl
theorem fb75 : fnB Tryz.prog 75 = true := by kernel_rfl
theorem fb76 : fnB Tryz.prog 76 = true := by kernel_rfl
theorem fb77 : fnB Tryz.prog 77 = true := by kernel_rfl
theorem fb78 : fnB Tryz.prog 78 = true := by kernel_rfl
theorem fb79 : fnB Tryz.prog 79 = true := by kernel_rfl
theorem fb80 : fnB Tryz.prog 80 = true := by kernel_rfl
theorem fb81 : fnB Tryz.prog 81 = true := by kernel_rfl
theorem fb82 : fnB Tryz.prog 82 = true := by kernel_rfl
theorem fb83 : fnB Tryz.prog 83 = true := by kernel_rfl
theorem fb84 : fnB Tryz.prog 84 = true := by kernel_rfl
theorem fb85 : fnB Tryz.prog 85 = true := by kernel_rfl
theorem fb86 : fnB Tryz.prog 86 = true := by kernel_rfl
theorem fb87 : fnB Tryz.prog 87 = true := by kernel_rfl
theorem fb88 : fnB Tryz.prog 88 = true := by kernel_rfl
theorem fb92 : fnB Tryz.prog 92 = true := by kernel_rfl
theorem fb98 : fnB Tryz.prog 98 = true := by kernel_rfl
theorem fb99 : fnB Tryz.prog 99 = true := by kernel_rfl
theorem pl143 : plB Tryz.prog 143 = true := by kernel_rfl
theorem pl26 : plB Tryz.prog 26 = true := by kernel_rfl
theorem pl38 : plB Tryz.prog 38 = true := by kernel_rfl
theorem pl90 : plB Tryz.prog 90 = true := by kernel_rfl
theorem ub4 : Tryz.prog.underlying 4 = some .bool := by kernel_rfl
theorem ul133 : Tryz.prog.underlying 133 = some (.slice 27) := by kernel_rfl
theorem ul23 : Tryz.prog.underlying 23 = some (.slice 90) := by kernel_rfl
theorem ul24 : Tryz.prog.underlying 24 = some (.slice 38) := by kernel_rfl
theorem ul27 : Tryz.prog.underlying 27 = some (.slice 143) := by kernel_rfl
theorem ul93 : Tryz.prog.underlying 93 = some (.slice 3) := by kernel_rfl
theorem up179 : Tryz.prog.underlying 179 = some (.pointer (Tryz.prog.pointee 179)) := by kernel_rfl
theorem weq143 : EqOk Tryz.prog 143 Itm := EqOk.itm (Ti := 3) (Tp := 75) (by kernel_rfl) (by kernel_rfl) (by kernel_rfl) (by kernel_rfl) ty3 (by kernel_rfl) ty75 (by kernel_rfl) (by kernel_rfl) (by kernel_rfl)
theorem mixed : Tryz.prog.follows .mixedOrders = true := by kernel_rfl
end Go.Proofs.YtmhmeppocbcmeaaGreat

/- What comes in at the exact laws' types is read as values. -/
set_option linter.unusedVariables false
set_option linter.unusedSimpArgs false
namespace Go.Proofs.YtmhmeppocbcmeaaGreat
open Go Go.Wt
section
variable {H : Type} {enc : TypeId × Value → H} {w : Go.World}
theorem trInt : Tr enc Tryz.prog w 0 (fun _ => true) true 3 Int := tr_int (by kernel_rfl)
theorem trPay : Tr enc Tryz.prog w 0 (fun _ => true) true 67 Pay := fun fuel cs x h hw => by
  obtain ⟨y, hy⟩ := tr_struct (fs := Tryz.prog.fieldsOf 67) (l := [(3, 0), (3, 1), (3, 2)]) (τ := Int × Int × Int) (by kernel_rfl) (by kernel_rfl) (by kernel_rfl) (fl_cons (by kernel_rfl) trInt (fl_cons (by kernel_rfl) trInt (fl_one (by kernel_rfl) trInt))) fuel cs x h hw
  exact ⟨⟨y.1, y.2.1, y.2.2⟩, hy⟩
theorem trItem : Tr enc Tryz.prog w 0 (fun _ => true) true 189 Itm := fun fuel cs x h hw => by
  obtain ⟨y, hy⟩ := tr_struct (fs := Tryz.prog.fieldsOf 189) (l := [(3, 0), (67, 1)]) (τ := Int × Pay) (by kernel_rfl) (by kernel_rfl) (by kernel_rfl) (fl_cons (by kernel_rfl) trInt (fl_one (by kernel_rfl) trPay)) fuel cs x h hw
  exact ⟨⟨y.1, y.2⟩, hy⟩
theorem trItemS : Tr enc Tryz.prog w 0 (fun _ => true) true 68 (List Itm) := tr_slice (by kernel_rfl) (by kernel_rfl) (of_decide_eq_true (by kernel_rfl)) trItem
theorem trPayS : Tr enc Tryz.prog w 0 (fun _ => true) true 56 (List Pay) := tr_slice (by kernel_rfl) (by kernel_rfl) (of_decide_eq_true (by kernel_rfl)) trPay
theorem trVote : Tr enc Tryz.prog w 0 (fun _ => true) true 70 Vote := fun fuel cs x h hw => by
  obtain ⟨y, hy⟩ := tr_struct (fs := Tryz.prog.fieldsOf 70) (l := [(3, 0), (68, 1)]) (τ := Int × List Itm) (by kernel_rfl) (by kernel_rfl) (by kernel_rfl) (fl_cons (by kernel_rfl) trInt (fl_one (by kernel_rfl) trItemS)) fuel cs x h hw
  exact ⟨⟨y.1, y.2⟩, hy⟩
theorem trVoteS : Tr enc Tryz.prog w 0 (fun _ => true) true 53 (List Vote) := tr_slice (by kernel_rfl) (by kernel_rfl) (of_decide_eq_true (by kernel_rfl)) trVote
theorem trNode : Tr enc Tryz.prog w 0 (fun _ => true) true 160 Nod := fun fuel cs x h hw => by
  obtain ⟨y, hy⟩ := tr_struct (fs := Tryz.prog.fieldsOf 160) (l := [(3, 0), (3, 1), (3, 2), (53, 3)]) (τ := Int × Int × Int × List Vote) (by kernel_rfl) (by kernel_rfl) (by kernel_rfl) (fl_cons (by kernel_rfl) trInt (fl_cons (by kernel_rfl) trInt (fl_cons (by kernel_rfl) trInt (fl_one (by kernel_rfl) trVoteS)))) fuel cs x h hw
  exact ⟨⟨y.1, y.2.1, y.2.2.1, y.2.2.2⟩, hy⟩
theorem trNodeS : Tr enc Tryz.prog w 0 (fun _ => true) true 52 (List Nod) := tr_slice (by kernel_rfl) (by kernel_rfl) (of_decide_eq_true (by kernel_rfl)) trNode
theorem trWorld : Tr enc Tryz.prog w 0 (fun _ => true) true 55 Wrld := fun fuel cs x h hw => by
  obtain ⟨y, hy⟩ := tr_struct (fs := Tryz.prog.fieldsOf 55) (l := [(3, 0), (52, 1), (53, 2), (3, 3)]) (τ := Int × List Nod × List Vote × Int) (by kernel_rfl) (by kernel_rfl) (by kernel_rfl) (fl_cons (by kernel_rfl) trInt (fl_cons (by kernel_rfl) trNodeS (fl_cons (by kernel_rfl) trVoteS (fl_one (by kernel_rfl) trInt)))) fuel cs x h hw
  exact ⟨⟨y.1, y.2.1, y.2.2.1, y.2.2.2⟩, hy⟩
theorem trEvent : Tr enc Tryz.prog w 0 (fun _ => true) true 72 Evt := fun fuel cs x h hw => by
  obtain ⟨y, hy⟩ := tr_struct (fs := Tryz.prog.fieldsOf 72) (l := [(3, 0), (3, 1), (3, 2), (67, 3), (70, 6)]) (τ := Int × Int × Int × Pay × Vote) (by kernel_rfl) (by kernel_rfl) (by kernel_rfl) (fl_cons (by kernel_rfl) trInt (fl_cons (by kernel_rfl) trInt (fl_cons (by kernel_rfl) trInt (fl_cons (by kernel_rfl) trPay (fl_one (by kernel_rfl) trVote))))) fuel cs x h hw
  exact ⟨⟨y.1, y.2.1, y.2.2.1, y.2.2.2.1, y.2.2.2.2⟩, hy⟩
theorem trEventS : Tr enc Tryz.prog w 0 (fun _ => true) true 41 (List Evt) := tr_slice (by kernel_rfl) (by kernel_rfl) (of_decide_eq_true (by kernel_rfl)) trEvent
end
end Go.Proofs.YtmhmeppocbcmeaaGreat

/- Payments and chains. -/
set_option linter.unusedVariables false
namespace Go.Proofs.YtmhmeppocbcmeaaGreat
open Go Go.Wt
theorem within_ct (n lo hi : Int) : CtP Tryz.prog 98 [.v n, .v lo, .v hi] (.v (within n lo hi)) := by
  refine Ct.intro Tryz.func98 rfl rfl ?_
  all_goals refine aS (aR ?_)
  all_goals refine oC (oA rfl (Conv.of rfl) rfl) ?_
  all_goals refine oN ?_
  all_goals refine aS (aR ?_)
  all_goals refine oC (oM rfl (Conv.of rfl) rfl) ?_
  all_goals refine oC (oM rfl (Conv.of rfl) rfl) ?_
  all_goals refine oC (op_geq rfl rfl rfl) ?_
  all_goals refine oC (oM rfl (Conv.of rfl) rfl) ?_
  all_goals refine g_split (t := 10) rfl (fun h => ?_) (fun h => ?_)
  all_goals first | refine oC (gF rfl rfl rfl rfl rfl) ?_ | refine oC (gN rfl rfl rfl (oM rfl (Conv.of rfl) rfl)) ?_
  all_goals first | refine oC (gF rfl rfl rfl rfl rfl) ?_ | refine oC (gN rfl rfl rfl (oM rfl (Conv.of rfl) rfl)) ?_
  all_goals first | refine oC (gF rfl rfl rfl rfl rfl) ?_ | refine oC (gN rfl rfl rfl (op_leq rfl rfl rfl)) ?_
  all_goals refine oC (oQ rfl rfl rfl rfl) ?_
  all_goals refine oC (oA rfl (Conv.of rfl) rfl) ?_
  all_goals refine oN ?_
  all_goals refine aT ?_
  all_goals refine finP (.v rfl (Conv.of rfl)) rfl ?_
  all_goals (simp only [FV.av, within]; first | (rw [h]; rfl) | simp_all)
theorem epochOk_ct (n : Int) : CtP Tryz.prog 109 [.v n] (.v (within n 1 30)) := by
  refine Ct.intro Tryz.func109 rfl rfl ?_
  refine aS (aR ?_)
  refine oC (oA rfl (Conv.of rfl) rfl) ?_
  refine oN ?_
  refine aS (aR ?_)
  refine oC (oM rfl (Conv.of rfl) rfl) ?_
  refine oC (oL fb98 (.cons rfl (Conv.of rfl) (.cons rfl (Conv.of rfl) (.cons rfl (Conv.of rfl) (.nil _)))) (within_ct _ _ _) (aK rfl rfl (aK rfl rfl (aK rfl rfl aK0))) rfl rfl) ?_
  refine oC (oA rfl (Conv.of rfl) rfl) ?_
  refine oN ?_
  refine aT ?_
  exact finP (.v rfl (Conv.of rfl)) rfl rfl
theorem payOk_ct (p : Pay) : CtP Tryz.prog 110 [.v p] (.v (payOk p)) := by
  refine Ct.intro Tryz.func110 rfl rfl ?_
  all_goals refine aS (aR ?_)
  all_goals refine oC (op_box (o := 0) ty75 rfl (Conv.of rfl) rfl rfl) ?_
  all_goals refine oC (oA rfl (Conv.of rfl) rfl) ?_
  all_goals refine oN ?_
  all_goals refine aS (aR ?_)
  all_goals refine oC (oF f75_0 rfl rfl) ?_
  all_goals refine oC (oD ty3 rfl rfl rfl) ?_
  all_goals refine oC (oL fb98 (.cons rfl (Conv.of rfl) (.cons rfl (Conv.of rfl) (.cons rfl (Conv.of rfl) (.nil _)))) (within_ct _ _ _) (aK rfl rfl (aK rfl rfl (aK rfl rfl aK0))) rfl rfl) ?_
  all_goals refine oC (oM rfl (Conv.of rfl) rfl) ?_
  all_goals refine g_split (t := 6) rfl (fun h => ?_) (fun h => ?_)
  all_goals first | refine oC (gF rfl rfl rfl rfl rfl) ?_ | refine oC (gN rfl rfl rfl (oF f75_1 rfl rfl)) ?_
  all_goals first | refine oC (gF rfl rfl rfl rfl rfl) ?_ | refine oC (gN rfl rfl rfl (oD ty3 rfl rfl rfl)) ?_
  all_goals first | refine oC (gF rfl rfl rfl rfl rfl) ?_ | refine oC (gN rfl rfl rfl (oL fb98 (.cons rfl (Conv.of rfl) (.cons rfl (Conv.of rfl) (.cons rfl (Conv.of rfl) (.nil _)))) (within_ct _ _ _) (aK rfl rfl (aK rfl rfl (aK rfl rfl aK0))) rfl rfl)) ?_
  all_goals refine oC (oQ rfl rfl rfl rfl) ?_
  all_goals refine oC (oM rfl (Conv.of rfl) rfl) ?_
  all_goals first | refine g_lit (t := 11) (b := false) rfl ?_ | refine g_split (t := 11) rfl (fun h => ?_) (fun h => ?_)
  all_goals first | refine oC (gF rfl rfl rfl rfl rfl) ?_ | refine oC (gN rfl rfl rfl (oF f75_0 rfl rfl)) ?_
  all_goals first | refine oC (gF rfl rfl rfl rfl rfl) ?_ | refine oC (gN rfl rfl rfl (oD ty3 rfl rfl rfl)) ?_
  all_goals first | refine oC (gF rfl rfl rfl rfl rfl) ?_ | refine oC (gN rfl rfl rfl (oF f75_1 rfl rfl)) ?_
  all_goals first | refine oC (gF rfl rfl rfl rfl rfl) ?_ | refine oC (gN rfl rfl rfl (oD ty3 rfl rfl rfl)) ?_
  all_goals first | refine oC (gF rfl rfl rfl rfl rfl) ?_ | refine oC (gN rfl rfl rfl (op_neq rfl rfl rfl)) ?_
  all_goals refine oC (oQ rfl rfl rfl rfl) ?_
  all_goals refine oC (oM rfl (Conv.of rfl) rfl) ?_
  all_goals first | refine g_lit (t := 18) (b := false) rfl ?_ | refine g_split (t := 18) rfl (fun h => ?_) (fun h => ?_)
  all_goals first | refine oC (gF rfl rfl rfl rfl rfl) ?_ | refine oC (gN rfl rfl rfl (oF f75_2 rfl rfl)) ?_
  all_goals first | refine oC (gF rfl rfl rfl rfl rfl) ?_ | refine oC (gN rfl rfl rfl (oD ty3 rfl rfl rfl)) ?_
  all_goals first | refine oC (gF rfl rfl rfl rfl rfl) ?_ | refine oC (gN rfl rfl rfl (oL fb98 (.cons rfl (Conv.of rfl) (.cons rfl (Conv.of rfl) (.cons rfl (Conv.of rfl) (.nil _)))) (within_ct _ _ _) (aK rfl rfl (aK rfl rfl (aK rfl rfl aK0))) rfl rfl)) ?_
  all_goals refine oC (oQ rfl rfl rfl rfl) ?_
  all_goals refine oC (oA rfl (Conv.of rfl) rfl) ?_
  all_goals refine oN ?_
  all_goals refine aT ?_
  all_goals refine finP (.v rfl (Conv.of rfl)) rfl ?_
  all_goals simp_all [FV.av, payOk]
set_option maxHeartbeats 1000000 in
theorem chainOk_ct (c : List Itm) : CtP Tryz.prog 53 [.v c] (.v (chainOk c)) := by
  refine Ct.intro Tryz.func53 rfl rfl ?_
  refine awp_bigL 0 rfl (fun hB => ?_)
  all_goals refine aS (aR ?_)
  all_goals refine oC (oA rfl (Conv.of rfl) rfl) ?_
  all_goals refine oN ?_
  all_goals refine aS (aS (aR ?_))
  all_goals refine oC (oM rfl (Conv.of rfl) rfl) ?_
  all_goals refine oC (oE sl27 rfl rfl) ?_
  all_goals refine oC (oM rfl (Conv.of rfl) rfl) ?_
  all_goals refine oN ?_
  refine aB ?_
  refine awp_loop' (fun n s => ∃ (k : Nat), ∃ (hn : n + k = c.length), ∃ (hall : ∀ (j : Nat) (x : Itm), j < k → c[j]? = some x → itemOk c j x = true), s = mkSt 41 [(0, .v c), (5, .v c), (6, .v (c.length : Int)), (7, .v (k : Int))] []) (c.length) ⟨0, by omega, fun j x h => by omega, rfl⟩ (Le.mk rfl (tle rfl (rfl) rfl (tle rfl (rfl) rfl (tle rfl (rfl) rfl (tle rfl (rfl) rfl tln)))) oln noS) ?_
  rintro n s ⟨k, hn, hall, rfl⟩
  all_goals refine aS (aR ?_)
  all_goals refine oC (oLt rfl rfl rfl) ?_
  all_goals refine oN ?_
  refine aS (aC rfl (fun h => ?_) (fun h => ?_))
  · have hlt : k < c.length := by simpa using h
    have hx : c[k]? = some c[k] := List.getElem?_eq_getElem hlt
    refine aW ?_
    refine aS (aB ?_)
    all_goals refine aS (aR ?_)
    all_goals refine oC (oM rfl (Conv.of rfl) rfl) ?_
    all_goals refine oC (op_ix sl27 rfl rfl rfl (by omega) hx) ?_
    all_goals refine oC (oDR ty143 rfl rfl) ?_
    all_goals refine oC (oX (o := 0) z143 rfl rfl) ?_
    all_goals refine oC (oA rfl (Conv.of rfl) rfl) ?_
    all_goals refine oC (op_st ty143 rfl rfl (Conv.of rfl) rfl) ?_
    all_goals refine oN ?_
    have hprev : decide ((0 : Int) < k) = true → 0 ≤ (k : Int) - 1 ∧ c[((k : Int) - 1).toNat]? = some (c[k - 1]'(by omega)) := by
      intro h0
      have h1 : 0 < k := by simpa using h0
      have e : ((k : Int) - 1).toNat = k - 1 := by omega
      exact ⟨by omega, by rw [e]; exact List.getElem?_eq_getElem (by omega)⟩
    refine aST (s' := mkSt 41 [(0, .v c), (5, .v c), (6, .v (c.length : Int)), (7, .v (k : Int)), (36, .v (!itemOk c k c[k]))] []) ?_ ?_
    · all_goals refine dS ?_
      all_goals refine dC (oF f143_0 rfl rfl) ?_
      all_goals refine dC (oD ty3 rfl rfl rfl) ?_
      all_goals refine dC (oL fb109 (.cons rfl (Conv.of rfl) (.nil _)) (epochOk_ct _) (aK rfl rfl aK0) rfl rfl) ?_
      all_goals refine dC (op_not rfl rfl) ?_
      all_goals refine dC (oM rfl (Conv.of rfl) rfl) ?_
      all_goals refine dr_split (t := 16) rfl (fun h => ?_) (fun h => ?_)
      all_goals first | refine dC (gF rfl rfl rfl rfl rfl) ?_ | refine dC (gN rfl rfl rfl (oF f143_1 rfl rfl)) ?_
      all_goals first | refine dC (gF rfl rfl rfl rfl rfl) ?_ | refine dC (gN rfl rfl rfl (oD ty75 rfl rfl rfl)) ?_
      all_goals first | refine dC (gF rfl rfl rfl rfl rfl) ?_ | refine dC (gN rfl rfl rfl (oL fb110 (.cons rfl (Conv.of rfl) (.nil _)) (payOk_ct _) (aK rfl rfl aK0) rfl rfl)) ?_
      all_goals first | refine dC (gF rfl rfl rfl rfl rfl) ?_ | refine dC (gN rfl rfl rfl (op_not rfl rfl)) ?_
      all_goals refine dC (oQ rfl rfl rfl rfl) ?_
      all_goals refine dC (oM rfl (Conv.of rfl) rfl) ?_
      all_goals first | refine dr_lit (t := 22) (b := true) rfl ?_ | refine dr_split (t := 22) rfl (fun h => ?_) (fun h => ?_)
      all_goals first | refine dC (gF rfl rfl rfl rfl rfl) ?_ | refine dC (gN rfl rfl rfl (oM rfl (Conv.of rfl) rfl)) ?_
      all_goals first | refine dC (gF rfl rfl rfl rfl rfl) ?_ | refine dC (gN rfl rfl rfl (op_gtr rfl rfl rfl)) ?_
      all_goals first | refine dC (gF rfl rfl rfl rfl rfl) ?_ | refine dC (gN rfl rfl rfl (oM rfl (Conv.of rfl) rfl)) ?_
      all_goals first | refine dr_ulit (t := 25) rfl ?_ | refine dr_split (t := 25) rfl (fun h => ?_) (fun h => ?_)
      all_goals first | refine dC (gF rfl rfl rfl rfl rfl) ?_ | refine dC (g_und rfl rfl rfl) ?_ | refine dC (gN rfl rfl rfl (oM rfl (Conv.of rfl) rfl)) ?_
      all_goals first | refine dC (gF rfl rfl rfl rfl rfl) ?_ | refine dC (g_und rfl rfl rfl) ?_ | refine dC (gN rfl rfl rfl (oM rfl (Conv.of rfl) rfl)) ?_
      all_goals first | refine dC (gF rfl rfl rfl rfl rfl) ?_ | refine dC (g_und rfl rfl rfl) ?_ | refine dC (gN rfl rfl rfl (op_sub rfl rfl rfl (by omega))) ?_
      all_goals first | refine dC (gF rfl rfl rfl rfl rfl) ?_ | refine dC (g_und rfl rfl rfl) ?_ | refine dC (gN rfl rfl rfl (op_ix sl27 rfl rfl rfl (hprev h).1 (hprev h).2)) ?_
      all_goals first | refine dC (gF rfl rfl rfl rfl rfl) ?_ | refine dC (g_und rfl rfl rfl) ?_ | refine dC (gN rfl rfl rfl (oFR f143_0 rfl rfl)) ?_
      all_goals first | refine dC (gF rfl rfl rfl rfl rfl) ?_ | refine dC (g_und rfl rfl rfl) ?_ | refine dC (gN rfl rfl rfl (oDR ty3 rfl rfl)) ?_
      all_goals first | refine dC (gF rfl rfl rfl rfl rfl) ?_ | refine dC (g_und rfl rfl rfl) ?_ | refine dC (gN rfl rfl rfl (oF f143_0 rfl rfl)) ?_
      all_goals first | refine dC (gF rfl rfl rfl rfl rfl) ?_ | refine dC (g_und rfl rfl rfl) ?_ | refine dC (gN rfl rfl rfl (oD ty3 rfl rfl rfl)) ?_
      all_goals first | refine dC (gF rfl rfl rfl rfl rfl) ?_ | refine dC (g_und rfl rfl rfl) ?_ | refine dC (gN rfl rfl rfl (op_geq rfl rfl rfl)) ?_
      all_goals first | refine dC (gF rfl rfl rfl rfl rfl) ?_ | refine dC (gN rfl rfl rfl (oQ rfl rfl rfl rfl)) ?_
      all_goals refine dC (oQ rfl rfl rfl rfl) ?_
      all_goals refine dr_nil mixed rfl ?_
      all_goals exact Le.mk rfl (tle rfl (rfl) rfl (tle rfl (rfl) rfl (tle rfl (rfl) rfl (tle rfl (rfl) rfl (tle rfl (by (clear hall; simp_all [itemOk_nat, List.getElem?_eq_getElem (show k - 1 < c.length by omega)])) rfl tln))))) oln noS
    refine aC rfl (fun h => ?_) (fun h => ?_)
    · all_goals refine aS (aR ?_)
      all_goals refine oC (oA rfl (Conv.of rfl) rfl) ?_
      all_goals refine oN ?_
      refine aT ?_
      repeat first | refine rS ?_ | refine rB ?_
      refine finP (.v rfl (Conv.of rfl)) rfl ?_
      show AV.v false = _
      rw [chainOk_bad hx (by simpa using h)]
    · refine aW ?_
      all_goals refine aR ?_
      all_goals refine oC (oP rfl rfl rfl (by omega)) ?_
      all_goals refine oC (oM rfl (Conv.of rfl) rfl) ?_
      all_goals refine oN ?_
      repeat first | refine nS ?_ | refine nB ?_
      exact ⟨n - 1, _, by omega, ⟨k + 1, by omega, fun j x hj hjx => chainOk_more hx hall (by simpa using h) hj hjx, rfl⟩, Le.mk rfl (tle rfl (rfl) rfl (tle rfl (rfl) rfl (tle rfl (rfl) rfl (tle rfl (rfl) rfl tln)))) oln noS⟩
  · refine aE ?_
    repeat refine ex_seq ?_
    refine eB ?_
    all_goals refine aS (aR ?_)
    all_goals refine oC (oM rfl (Conv.of rfl) rfl) ?_
    all_goals refine oC (oE sl27 rfl rfl) ?_
    all_goals refine oC (op_leq rfl rfl rfl) ?_
    all_goals refine oC (oA rfl (Conv.of rfl) rfl) ?_
    all_goals refine oN ?_
    refine aT ?_
    repeat first | refine rS ?_ | refine rB ?_
    refine finP (.v rfl (Conv.of rfl)) rfl ?_
    show AV.v _ = _
    rw [chainOk_good (k := k) (by simpa using h) hall]
end Go.Proofs.YtmhmeppocbcmeaaGreat

/- Rows that are the same, copied, searched. -/
set_option linter.unusedVariables false
namespace Go.Proofs.YtmhmeppocbcmeaaGreat
open Go Go.Wt
theorem equal_ct (a b : List Itm) : CtP Tryz.prog 169 [.v a, .v b] (.v (decide (a = b))) := by
  refine Ct.intro Tryz.func169 rfl rfl ?_
  refine awp_bigL 0 rfl (fun hB => ?_)
  refine aS (aR ?_)
  refine oC (oA rfl (Conv.of rfl) rfl) ?_
  refine oN ?_
  refine aS (aS (aR ?_))
  refine oC (oM rfl (Conv.of rfl) rfl) ?_
  refine oC (oE sl27 rfl rfl) ?_
  refine oC (oM rfl (Conv.of rfl) rfl) ?_
  refine oC (oE sl27 rfl rfl) ?_
  refine oC (op_neq rfl rfl rfl) ?_
  refine oN ?_
  refine aC rfl (fun h => ?_) (fun h => ?_)
  · refine aS (aR ?_)
    refine oC (oA rfl (Conv.of rfl) rfl) ?_
    refine oN ?_
    refine aT ?_
    repeat first | refine rS ?_ | refine rB ?_
    refine finP (.v rfl (Conv.of rfl)) rfl ?_
    show AV.v false = _
    have : a ≠ b := by intro e; subst e; simp at h
    simp [this]
  · refine aW ?_
    have hlen : a.length = b.length := by simp at h; omega
    refine aS (aS (aR ?_))
    refine oC (oM rfl (Conv.of rfl) rfl) ?_
    refine oC (oE sl27 rfl rfl) ?_
    refine oC (oM rfl (Conv.of rfl) rfl) ?_
    refine oN ?_
    refine aB ?_
    refine awp_loop' (fun n s => ∃ (k : Nat), ∃ (hn : n + k = a.length), ∃ (hall : decide (a = b) = decide (a.drop k = b.drop k)), s = mkSt 26 [(0, .v a), (1, .v b), (12, .v (a.length : Int)), (13, .v (k : Int))] []) (a.length) ⟨0, by omega, rfl, rfl⟩ (Le.mk rfl (tle rfl (rfl) rfl (tle rfl (rfl) rfl (tle rfl (rfl) rfl (tle rfl (rfl) rfl tln)))) oln noS) ?_
    rintro n s ⟨k, hn, hall, rfl⟩
    refine aS (aR ?_)
    refine oC (oLt rfl rfl rfl) ?_
    refine oN ?_
    refine aS (aC rfl (fun h => ?_) (fun h => ?_))
    · have hlt : k < a.length := by simpa using h
      have hx : a[k]? = some a[k] := List.getElem?_eq_getElem hlt
      have hy : b[k]? = some (b[k]'(by omega)) := List.getElem?_eq_getElem (by omega)
      have hs := same_drop hx hy
      refine aW ?_
      refine aS (aB ?_)
      refine aS (aR ?_)
      refine oC (oM rfl (Conv.of rfl) rfl) ?_
      refine oC (oA rfl (Conv.of rfl) rfl) ?_
      refine oN ?_
      refine aS (dS ?_)
      refine dC (oM rfl (Conv.of rfl) rfl) ?_
      refine dC (oM rfl (Conv.of rfl) rfl) ?_
      refine dC (op_ix sl27 rfl rfl rfl (by omega) hx) ?_
      refine dC (oDR ty143 rfl rfl) ?_
      refine dC (oM rfl (Conv.of rfl) rfl) ?_
      refine dC (oM rfl (Conv.of rfl) rfl) ?_
      refine dC (op_ix sl27 rfl rfl rfl (by omega) hy) ?_
      refine dC (oDR ty143 rfl rfl) ?_
      refine dC (op_nea weq143 rfl rfl rfl) ?_
      refine dr_nil mixed rfl ?_
      refine aC rfl (fun h => ?_) (fun h => ?_)
      · refine aS (aR ?_)
        refine oC (oA rfl (Conv.of rfl) rfl) ?_
        refine oN ?_
        refine aT ?_
        repeat first | refine rS ?_ | refine rB ?_
        refine finP (.v rfl (Conv.of rfl)) rfl ?_
        show AV.v false = _
        have h' : decide (a[k] = b[k]) = false := by simpa using h
        rw [hall, hs, h', Bool.false_and]
      · refine aW ?_
        refine aR ?_
        refine oC (oP rfl rfl rfl (by omega)) ?_
        refine oC (oM rfl (Conv.of rfl) rfl) ?_
        refine oN ?_
        have h' : decide (a[k] = b[k]) = true := by simpa using h
        repeat first | refine nS ?_ | refine nB ?_
        exact ⟨n - 1, _, by omega, ⟨k + 1, by omega, by rw [hall, hs, h', Bool.true_and], rfl⟩, Le.mk rfl (tle rfl (rfl) rfl (tle rfl (rfl) rfl (tle rfl (rfl) rfl (tle rfl (rfl) rfl tln)))) oln noS⟩
    · refine aE ?_
      repeat refine ex_seq ?_
      refine eB ?_
      have hk : a.length ≤ k := by simpa using h
      refine aS (aR ?_)
      refine oC (oA rfl (Conv.of rfl) rfl) ?_
      refine oN ?_
      refine aT ?_
      repeat first | refine rS ?_ | refine rB ?_
      refine finP (.v rfl (Conv.of rfl)) rfl ?_
      show AV.v true = _
      rw [hall, drop_end hk, drop_end (by omega : b.length ≤ k)]
      simp
theorem cloneI_ct (a : List Itm) (ha : a.length ≤ 1000000) : CtP Tryz.prog 114 [.v a] (.v (OList.mk a true)) := by
  refine Ct.intro Tryz.func114 rfl rfl ?_
  refine aS (aR ?_)
  refine oC (oA rfl (Conv.of rfl) rfl) ?_
  refine oN ?_
  refine aS (aS (aR ?_))
  refine oC (oM rfl (Conv.of rfl) rfl) ?_
  refine awpOps_nil? sl27 rfl rfl (fun b hb => ?_)
  refine oN ?_
  refine aC rfl (fun h => ?_) (fun h => ?_)
  · refine aS (aR ?_)
    refine oC (oA rfl (Conv.of rfl) rfl) ?_
    refine oN ?_
    refine aT ?_
    repeat first | refine rS ?_ | refine rB ?_
    refine ⟨_, _, res1 (ol := []) (r := .v (OList.mk a true)) (.rt rfl ?_) (by intro o ho; cases ho) trivial noS, rfl, rfl⟩
    rw [hb h]; exact Conv.no
  · refine aW ?_
    refine aS (aR ?_)
    refine oC (op_bsl sl27 z143 (.nil _) rfl (by decide) rfl) ?_
    refine oC (oM rfl (Conv.of rfl) rfl) ?_
    refine oC (op_app sl27 z143 ul27 rfl rfl rfl (by (simp; omega)) (by (simp; omega)) rfl rfl) ?_
    refine oC (op_asl rfl rfl rfl rfl) ?_
    refine oN ?_
    refine aT ?_
    repeat first | refine rS ?_ | refine rB ?_
    exact finM rfl rfl (by simp)
theorem clipI_ct (a : OList Itm) : CtP Tryz.prog 113 [.v a.l] (.v (CList.mk a.l)) := by
  refine Ct.intro Tryz.func113 rfl rfl ?_
  refine aS (aR ?_)
  refine oC (oA rfl (Conv.of rfl) rfl) ?_
  refine oN ?_
  refine aS (aR ?_)
  refine oC (oM rfl (Conv.of rfl) rfl) ?_
  refine oC (oM rfl (Conv.of rfl) rfl) ?_
  refine oC (oE sl27 rfl rfl) ?_
  refine oC (oM rfl (Conv.of rfl) rfl) ?_
  refine oC (oE sl27 rfl rfl) ?_
  refine oC (op_slhm sl27 rfl rfl rfl rfl (by simp)) ?_
  refine oC (oA rfl (Conv.of rfl) rfl) ?_
  refine oN ?_
  refine aT ?_
  repeat first | refine rS ?_ | refine rB ?_
  refine finP (.v rfl (Conv.of rfl)) rfl ?_
  show AV.v (CList.mk _) = _
  simp
theorem cloneV_ct (a : List Vote) (ha : a.length ≤ 1000000) : CtP Tryz.prog 175 [.v a] (.v (OList.mk a true)) := by
  refine Ct.intro Tryz.func175 rfl rfl ?_
  refine aS (aR ?_)
  refine oC (oA rfl (Conv.of rfl) rfl) ?_
  refine oN ?_
  refine aS (aS (aR ?_))
  refine oC (oM rfl (Conv.of rfl) rfl) ?_
  refine awpOps_nil? sl24 rfl rfl (fun b hb => ?_)
  refine oN ?_
  refine aC rfl (fun h => ?_) (fun h => ?_)
  · refine aS (aR ?_)
    refine oC (oA rfl (Conv.of rfl) rfl) ?_
    refine oN ?_
    refine aT ?_
    repeat first | refine rS ?_ | refine rB ?_
    refine ⟨_, _, res1 (ol := []) (r := .v (OList.mk a true)) (.rt rfl ?_) (by intro o ho; cases ho) trivial noS, rfl, rfl⟩
    rw [hb h]; exact Conv.no
  · refine aW ?_
    refine aS (aR ?_)
    refine oC (op_bsl sl24 z38 (.nil _) rfl (by decide) rfl) ?_
    refine oC (oM rfl (Conv.of rfl) rfl) ?_
    refine oC (op_app sl24 z38 ul24 rfl rfl rfl (by (simp; omega)) (by (simp; omega)) rfl rfl) ?_
    refine oC (op_asl rfl rfl rfl rfl) ?_
    refine oN ?_
    refine aT ?_
    repeat first | refine rS ?_ | refine rB ?_
    exact finM rfl rfl (by simp)
theorem clipV_ct (a : OList Vote) : CtP Tryz.prog 60 [.v a.l] (.v (CList.mk a.l)) := by
  refine Ct.intro Tryz.func60 rfl rfl ?_
  refine aS (aR ?_)
  refine oC (oA rfl (Conv.of rfl) rfl) ?_
  refine oN ?_
  refine aS (aR ?_)
  refine oC (oM rfl (Conv.of rfl) rfl) ?_
  refine oC (oM rfl (Conv.of rfl) rfl) ?_
  refine oC (oE sl24 rfl rfl) ?_
  refine oC (oM rfl (Conv.of rfl) rfl) ?_
  refine oC (oE sl24 rfl rfl) ?_
  refine oC (op_slhm sl24 rfl rfl rfl rfl (by simp)) ?_
  refine oC (oA rfl (Conv.of rfl) rfl) ?_
  refine oN ?_
  refine aT ?_
  repeat first | refine rS ?_ | refine rB ?_
  refine finP (.v rfl (Conv.of rfl)) rfl ?_
  show AV.v (CList.mk _) = _
  simp
theorem clipC_ct (a : OList (CList Itm)) : CtP Tryz.prog 181 [.v a.l] (.v (CList.mk a.l)) := by
  refine Ct.intro Tryz.func181 rfl rfl ?_
  refine aS (aR ?_)
  refine oC (oA rfl (Conv.of rfl) rfl) ?_
  refine oN ?_
  refine aS (aR ?_)
  refine oC (oM rfl (Conv.of rfl) rfl) ?_
  refine oC (oM rfl (Conv.of rfl) rfl) ?_
  refine oC (oE sl133_CListItm rfl rfl) ?_
  refine oC (oM rfl (Conv.of rfl) rfl) ?_
  refine oC (oE sl133_CListItm rfl rfl) ?_
  refine oC (op_slhm sl133_CListItm rfl rfl rfl rfl (by simp)) ?_
  refine oC (oA rfl (Conv.of rfl) rfl) ?_
  refine oN ?_
  refine aT ?_
  repeat first | refine rS ?_ | refine rB ?_
  refine finP (.v rfl (Conv.of rfl)) rfl ?_
  show AV.v (CList.mk _) = _
  simp
end Go.Proofs.YtmhmeppocbcmeaaGreat

/- The exact laws: measures. -/
set_option linter.unusedVariables false
set_option linter.unusedSimpArgs false
namespace Go.Proofs.YtmhmeppocbcmeaaGreat
open Go Go.Wt
theorem szItemS_ct (l : List Itm) (left : Int) (h0 : 0 ≤ left ∧ left ≤ 1048576) : CtP Tryz.prog 138 [.v l, .v left] (.v (szR l.length left)) := by
  refine Ct.intro Tryz.func138 rfl rfl ?_
  refine awp_bigL 0 rfl (fun hB => ?_)
  refine aS (aR ?_)
  refine oC (oA rfl (Conv.of rfl) rfl) ?_
  refine oN ?_
  refine aS (aR ?_)
  refine oC (oM rfl (Conv.of rfl) rfl) ?_
  refine oC (oM rfl (Conv.of rfl) rfl) ?_
  refine oC (oE sl68 rfl rfl) ?_
  refine oC (op_sub rfl rfl rfl (by omega)) ?_
  refine oC (oA rfl (Conv.of rfl) rfl) ?_
  refine oN ?_
  refine aS (aS (aR ?_))
  refine oC (oM rfl (Conv.of rfl) rfl) ?_
  refine oC (oLt rfl rfl rfl) ?_
  refine oN ?_
  refine aC rfl (fun h => ?_) (fun h => ?_)
  · have hh := of_decide_eq_true h
    refine aS (aR ?_)
    refine oC (oA rfl (Conv.of rfl) rfl) ?_
    refine oN ?_
    refine aT ?_
    repeat first | refine rS ?_ | refine rB ?_
    refine finP (.v rfl (Conv.of rfl)) rfl ?_
    rw [szR_no (by omega)]; rfl
  · have hh := of_decide_eq_false h
    refine aW ?_
    refine aS (aR ?_)
    refine oC (oM rfl (Conv.of rfl) rfl) ?_
    refine oC (oA rfl (Conv.of rfl) rfl) ?_
    refine oN ?_
    refine aT ?_
    repeat first | refine rS ?_ | refine rB ?_
    refine finP (.v rfl (Conv.of rfl)) rfl ?_
    rw [szR_yes (by omega)]; rfl
theorem szVote_ct (x : Vote) (left : Int) (h0 : 0 ≤ left ∧ left ≤ 1048576) : CtP Tryz.prog 86 [.v x, .v left] (.v (szR (tV x) left)) := by
  refine Ct.intro Tryz.func86 rfl rfl ?_
  refine aS (aR ?_)
  refine oC (op_box (o := 0) ty70 rfl (Conv.of rfl) rfl rfl) ?_
  refine oC (oA rfl (Conv.of rfl) rfl) ?_
  refine oN ?_
  refine aS (aR ?_)
  refine oC (oF f70_1 rfl rfl) ?_
  refine oC (oD ty68 rfl rfl rfl) ?_
  refine oC (oM rfl (Conv.of rfl) rfl) ?_
  refine oC (oL fb138 (.cons rfl (Conv.of rfl) (.cons rfl (Conv.of rfl) (.nil _))) (szItemS_ct _ _ h0) (aK rfl rfl (aK rfl rfl aK0)) rfl rfl) ?_
  refine oC (oA rfl (Conv.of rfl) rfl) ?_
  refine oN ?_
  refine aS (aS (aR ?_))
  refine oC (oM rfl (Conv.of rfl) rfl) ?_
  refine oC (oLt rfl rfl rfl) ?_
  refine oN ?_
  refine aC rfl (fun h => ?_) (fun h => ?_)
  · have hh := szR_neg (of_decide_eq_true h)
    refine aS (aR ?_)
    refine oC (oA rfl (Conv.of rfl) rfl) ?_
    refine oN ?_
    refine aT ?_
    repeat first | refine rS ?_ | refine rB ?_
    refine finP (.v rfl (Conv.of rfl)) rfl ?_
    rw [szR_no (show left < (tV x : Int) from hh)]; rfl
  · refine aW ?_
    refine aS (aR ?_)
    refine oC (oM rfl (Conv.of rfl) rfl) ?_
    refine oC (oA rfl (Conv.of rfl) rfl) ?_
    refine oN ?_
    refine aT ?_
    repeat first | refine rS ?_ | refine rB ?_
    exact finP (.v rfl (Conv.of rfl)) rfl rfl
set_option maxHeartbeats 1000000 in
theorem szVoteS_ct (l : List Vote) (left : Int) (h0 : 0 ≤ left ∧ left ≤ 1048576) : CtP Tryz.prog 75 [.v l, .v left] (.v (szR (tL tV l) left)) := by
  have htl : tL tV l = l.length + tS tV l := rfl
  refine Ct.intro Tryz.func75 rfl rfl ?_
  refine awp_bigL 0 rfl (fun hB => ?_)
  refine aS (aR ?_)
  refine oC (oA rfl (Conv.of rfl) rfl) ?_
  refine oN ?_
  refine aS (aR ?_)
  refine oC (oM rfl (Conv.of rfl) rfl) ?_
  refine oC (oM rfl (Conv.of rfl) rfl) ?_
  refine oC (oE sl53 rfl rfl) ?_
  refine oC (op_sub rfl rfl rfl (by omega)) ?_
  refine oC (oA rfl (Conv.of rfl) rfl) ?_
  refine oN ?_
  refine aS (aS (aR ?_))
  refine oC (oM rfl (Conv.of rfl) rfl) ?_
  refine oC (oLt rfl rfl rfl) ?_
  refine oN ?_
  refine aC rfl (fun h => ?_) (fun h => ?_)
  · have hh := of_decide_eq_true h
    refine aS (aR ?_)
    refine oC (oA rfl (Conv.of rfl) rfl) ?_
    refine oN ?_
    refine aT ?_
    repeat first | refine rS ?_ | refine rB ?_
    refine finP (.v rfl (Conv.of rfl)) rfl ?_
    rw [szR_no (by omega)]; rfl
  have hh := of_decide_eq_false h
  refine aW ?_
  refine aS (aS (aR ?_))
  refine oC (oA rfl (Conv.of rfl) rfl) ?_
  refine oN ?_
  refine aB ?_
  refine awp_loop' (fun n_ s => ∃ (k : Nat), ∃ (y : Int), ∃ (hn : n_ + k = l.length), ∃ (hy : y = left - (l.length : Int) - (tS tV (l.take k) : Int)), ∃ (hp : 0 ≤ y), s = mkSt 27 [(0, .v l), (1, .v y), (5, .v (k : Int))] []) (l.length) ⟨0, left - (l.length : Int), by omega, (by simp [tS]), (by omega), rfl⟩ (Le.mk rfl (tle rfl (rfl) rfl (tle rfl (rfl) rfl (tle rfl (rfl) rfl tln))) oln noS) ?_
  rintro n_ s ⟨k, y, hn, hy, hp, rfl⟩
  refine aS (aS (aR ?_))
  refine oC (oM rfl (Conv.of rfl) rfl) ?_
  refine oC (oM rfl (Conv.of rfl) rfl) ?_
  refine oC (oE sl53 rfl rfl) ?_
  refine oC (oLt rfl rfl rfl) ?_
  refine oN ?_
  refine aC rfl (fun h2 => ?_) (fun h2 => ?_)
  · have hlt : k < l.length := by simpa using h2
    have hx : l[k]? = some l[k] := List.getElem?_eq_getElem hlt
    generalize l[k] = x at hx
    have hx' : l[(k : Int).toNat]? = some x := hx
    have hst := tS_at tV hx
    have hle := tS_le tV l (k + 1)
    refine aW ?_
    refine aS (aB ?_)
    refine aS (aR ?_)
    refine oC (oM rfl (Conv.of rfl) rfl) ?_
    refine oC (oM rfl (Conv.of rfl) rfl) ?_
    refine oC (op_ix sl53 rfl rfl rfl (by omega) hx') ?_
    refine oC (oDR ty70 rfl rfl) ?_
    refine oC (oM rfl (Conv.of rfl) rfl) ?_
    refine oC (oL fb86 (.cons rfl (Conv.of rfl) (.cons rfl (Conv.of rfl) (.nil _))) (szVote_ct _ _ (by omega)) (aK rfl rfl (aK rfl rfl aK0)) rfl rfl) ?_
    refine oC (oA rfl (Conv.of rfl) rfl) ?_
    refine oN ?_
    refine aS (aR ?_)
    refine oC (oM rfl (Conv.of rfl) rfl) ?_
    refine oC (oLt rfl rfl rfl) ?_
    refine oN ?_
    refine aC rfl (fun h3 => ?_) (fun h3 => ?_)
    · have h4 := szR_neg (of_decide_eq_true h3)
      refine aS (aR ?_)
      refine oC (oA rfl (Conv.of rfl) rfl) ?_
      refine oN ?_
      refine aT ?_
      repeat first | refine rS ?_ | refine rB ?_
      refine finP (.v rfl (Conv.of rfl)) rfl ?_
      rw [szR_no (by omega)]; rfl
    · obtain ⟨h4, h5⟩ := szR_pos (of_decide_eq_false h3)
      refine aW ?_
      refine aR ?_
      refine oC (oM rfl (Conv.of rfl) rfl) ?_
      refine oC (oP rfl rfl rfl (by omega)) ?_
      refine oC (oA rfl (Conv.of rfl) rfl) ?_
      refine oN ?_
      repeat first | refine nS ?_ | refine nB ?_
      exact ⟨n_ - 1, _, by omega, ⟨k + 1, szR (tV x) y, by omega, (by rw [h5]; omega), (by rw [h5]; omega), rfl⟩, Le.mk rfl (tle rfl (rfl) rfl (tle rfl (rfl) rfl (tle rfl (rfl) rfl tln))) oln noS⟩
  · refine aE ?_
    repeat refine ex_seq ?_
    refine eB ?_
    have hk : l.length ≤ k := by simpa using h2
    rw [take_end hk] at hy
    refine aS (aR ?_)
    refine oC (oM rfl (Conv.of rfl) rfl) ?_
    refine oC (oA rfl (Conv.of rfl) rfl) ?_
    refine oN ?_
    refine aT ?_
    repeat first | refine rS ?_ | refine rB ?_
    refine finP (.v rfl (Conv.of rfl)) rfl ?_
    rw [szR_yes (by omega)]
    show AV.v _ = AV.v _
    congr 1; omega
theorem szNode_ct (x : Nod) (left : Int) (h0 : 0 ≤ left ∧ left ≤ 1048576) : CtP Tryz.prog 128 [.v x, .v left] (.v (szR (tN x) left)) := by
  refine Ct.intro Tryz.func128 rfl rfl ?_
  refine aS (aR ?_)
  refine oC (op_box (o := 0) ty160 rfl (Conv.of rfl) rfl rfl) ?_
  refine oC (oA rfl (Conv.of rfl) rfl) ?_
  refine oN ?_
  refine aS (aR ?_)
  refine oC (oF f160_3 rfl rfl) ?_
  refine oC (oD ty53 rfl rfl rfl) ?_
  refine oC (oM rfl (Conv.of rfl) rfl) ?_
  refine oC (oL fb75 (.cons rfl (Conv.of rfl) (.cons rfl (Conv.of rfl) (.nil _))) (szVoteS_ct _ _ h0) (aK rfl rfl (aK rfl rfl aK0)) rfl rfl) ?_
  refine oC (oA rfl (Conv.of rfl) rfl) ?_
  refine oN ?_
  refine aS (aS (aR ?_))
  refine oC (oM rfl (Conv.of rfl) rfl) ?_
  refine oC (oLt rfl rfl rfl) ?_
  refine oN ?_
  refine aC rfl (fun h => ?_) (fun h => ?_)
  · have hh := szR_neg (of_decide_eq_true h)
    refine aS (aR ?_)
    refine oC (oA rfl (Conv.of rfl) rfl) ?_
    refine oN ?_
    refine aT ?_
    repeat first | refine rS ?_ | refine rB ?_
    refine finP (.v rfl (Conv.of rfl)) rfl ?_
    rw [szR_no (show left < (tN x : Int) from hh)]; rfl
  · refine aW ?_
    refine aS (aR ?_)
    refine oC (oM rfl (Conv.of rfl) rfl) ?_
    refine oC (oA rfl (Conv.of rfl) rfl) ?_
    refine oN ?_
    refine aT ?_
    repeat first | refine rS ?_ | refine rB ?_
    exact finP (.v rfl (Conv.of rfl)) rfl rfl
set_option maxHeartbeats 1000000 in
theorem szNodeS_ct (l : List Nod) (left : Int) (h0 : 0 ≤ left ∧ left ≤ 1048576) : CtP Tryz.prog 74 [.v l, .v left] (.v (szR (tL tN l) left)) := by
  have htl : tL tN l = l.length + tS tN l := rfl
  refine Ct.intro Tryz.func74 rfl rfl ?_
  refine awp_bigL 0 rfl (fun hB => ?_)
  refine aS (aR ?_)
  refine oC (oA rfl (Conv.of rfl) rfl) ?_
  refine oN ?_
  refine aS (aR ?_)
  refine oC (oM rfl (Conv.of rfl) rfl) ?_
  refine oC (oM rfl (Conv.of rfl) rfl) ?_
  refine oC (oE sl52 rfl rfl) ?_
  refine oC (op_sub rfl rfl rfl (by omega)) ?_
  refine oC (oA rfl (Conv.of rfl) rfl) ?_
  refine oN ?_
  refine aS (aS (aR ?_))
  refine oC (oM rfl (Conv.of rfl) rfl) ?_
  refine oC (oLt rfl rfl rfl) ?_
  refine oN ?_
  refine aC rfl (fun h => ?_) (fun h => ?_)
  · have hh := of_decide_eq_true h
    refine aS (aR ?_)
    refine oC (oA rfl (Conv.of rfl) rfl) ?_
    refine oN ?_
    refine aT ?_
    repeat first | refine rS ?_ | refine rB ?_
    refine finP (.v rfl (Conv.of rfl)) rfl ?_
    rw [szR_no (by omega)]; rfl
  have hh := of_decide_eq_false h
  refine aW ?_
  refine aS (aS (aR ?_))
  refine oC (oA rfl (Conv.of rfl) rfl) ?_
  refine oN ?_
  refine aB ?_
  refine awp_loop' (fun n_ s => ∃ (k : Nat), ∃ (y : Int), ∃ (hn : n_ + k = l.length), ∃ (hy : y = left - (l.length : Int) - (tS tN (l.take k) : Int)), ∃ (hp : 0 ≤ y), s = mkSt 27 [(0, .v l), (1, .v y), (5, .v (k : Int))] []) (l.length) ⟨0, left - (l.length : Int), by omega, (by simp [tS]), (by omega), rfl⟩ (Le.mk rfl (tle rfl (rfl) rfl (tle rfl (rfl) rfl (tle rfl (rfl) rfl tln))) oln noS) ?_
  rintro n_ s ⟨k, y, hn, hy, hp, rfl⟩
  refine aS (aS (aR ?_))
  refine oC (oM rfl (Conv.of rfl) rfl) ?_
  refine oC (oM rfl (Conv.of rfl) rfl) ?_
  refine oC (oE sl52 rfl rfl) ?_
  refine oC (oLt rfl rfl rfl) ?_
  refine oN ?_
  refine aC rfl (fun h2 => ?_) (fun h2 => ?_)
  · have hlt : k < l.length := by simpa using h2
    have hx : l[k]? = some l[k] := List.getElem?_eq_getElem hlt
    generalize l[k] = x at hx
    have hx' : l[(k : Int).toNat]? = some x := hx
    have hst := tS_at tN hx
    have hle := tS_le tN l (k + 1)
    refine aW ?_
    refine aS (aB ?_)
    refine aS (aR ?_)
    refine oC (oM rfl (Conv.of rfl) rfl) ?_
    refine oC (oM rfl (Conv.of rfl) rfl) ?_
    refine oC (op_ix sl52 rfl rfl rfl (by omega) hx') ?_
    refine oC (oDR ty160 rfl rfl) ?_
    refine oC (oM rfl (Conv.of rfl) rfl) ?_
    refine oC (oL fb128 (.cons rfl (Conv.of rfl) (.cons rfl (Conv.of rfl) (.nil _))) (szNode_ct _ _ (by omega)) (aK rfl rfl (aK rfl rfl aK0)) rfl rfl) ?_
    refine oC (oA rfl (Conv.of rfl) rfl) ?_
    refine oN ?_
    refine aS (aR ?_)
    refine oC (oM rfl (Conv.of rfl) rfl) ?_
    refine oC (oLt rfl rfl rfl) ?_
    refine oN ?_
    refine aC rfl (fun h3 => ?_) (fun h3 => ?_)
    · have h4 := szR_neg (of_decide_eq_true h3)
      refine aS (aR ?_)
      refine oC (oA rfl (Conv.of rfl) rfl) ?_
      refine oN ?_
      refine aT ?_
      repeat first | refine rS ?_ | refine rB ?_
      refine finP (.v rfl (Conv.of rfl)) rfl ?_
      rw [szR_no (by omega)]; rfl
    · obtain ⟨h4, h5⟩ := szR_pos (of_decide_eq_false h3)
      refine aW ?_
      refine aR ?_
      refine oC (oM rfl (Conv.of rfl) rfl) ?_
      refine oC (oP rfl rfl rfl (by omega)) ?_
      refine oC (oA rfl (Conv.of rfl) rfl) ?_
      refine oN ?_
      repeat first | refine nS ?_ | refine nB ?_
      exact ⟨n_ - 1, _, by omega, ⟨k + 1, szR (tN x) y, by omega, (by rw [h5]; omega), (by rw [h5]; omega), rfl⟩, Le.mk rfl (tle rfl (rfl) rfl (tle rfl (rfl) rfl (tle rfl (rfl) rfl tln))) oln noS⟩
  · refine aE ?_
    repeat refine ex_seq ?_
    refine eB ?_
    have hk : l.length ≤ k := by simpa using h2
    rw [take_end hk] at hy
    refine aS (aR ?_)
    refine oC (oM rfl (Conv.of rfl) rfl) ?_
    refine oC (oA rfl (Conv.of rfl) rfl) ?_
    refine oN ?_
    refine aT ?_
    repeat first | refine rS ?_ | refine rB ?_
    refine finP (.v rfl (Conv.of rfl)) rfl ?_
    rw [szR_yes (by omega)]
    show AV.v _ = AV.v _
    congr 1; omega
theorem szWorld_ct (x : Wrld) (left : Int) (h0 : 0 ≤ left ∧ left ≤ 1048576) : CtP Tryz.prog 23 [.v x, .v left] (.v (szR (tW x) left)) := by
  have htw : tW x = tL tN x.nodes + tL tV x.log := rfl
  refine Ct.intro Tryz.func23 rfl rfl ?_
  refine aS (aR ?_)
  refine oC (op_box (o := 0) ty55 rfl (Conv.of rfl) rfl rfl) ?_
  refine oC (oA rfl (Conv.of rfl) rfl) ?_
  refine oN ?_
  refine aS (aR ?_)
  refine oC (oF f55_1 rfl rfl) ?_
  refine oC (oD ty52 rfl rfl rfl) ?_
  refine oC (oM rfl (Conv.of rfl) rfl) ?_
  refine oC (oL fb74 (.cons rfl (Conv.of rfl) (.cons rfl (Conv.of rfl) (.nil _))) (szNodeS_ct _ _ h0) (aK rfl rfl (aK rfl rfl aK0)) rfl rfl) ?_
  refine oC (oA rfl (Conv.of rfl) rfl) ?_
  refine oN ?_
  refine aS (aS (aR ?_))
  refine oC (oM rfl (Conv.of rfl) rfl) ?_
  refine oC (oLt rfl rfl rfl) ?_
  refine oN ?_
  refine aC rfl (fun h => ?_) (fun h => ?_)
  · have hh := szR_neg (of_decide_eq_true h)
    refine aS (aR ?_)
    refine oC (oA rfl (Conv.of rfl) rfl) ?_
    refine oN ?_
    refine aT ?_
    repeat first | refine rS ?_ | refine rB ?_
    refine finP (.v rfl (Conv.of rfl)) rfl ?_
    rw [szR_no (by omega)]; rfl
  obtain ⟨h4, h5⟩ := szR_pos (of_decide_eq_false h)
  refine aW ?_
  rw [h5]
  refine aS (aR ?_)
  refine oC (oF f55_2 rfl rfl) ?_
  refine oC (oD ty53 rfl rfl rfl) ?_
  refine oC (oM rfl (Conv.of rfl) rfl) ?_
  refine oC (oL fb75 (.cons rfl (Conv.of rfl) (.cons rfl (Conv.of rfl) (.nil _))) (szVoteS_ct _ _ (by omega)) (aK rfl rfl (aK rfl rfl aK0)) rfl rfl) ?_
  refine oC (oA rfl (Conv.of rfl) rfl) ?_
  refine oN ?_
  refine aS (aS (aR ?_))
  refine oC (oM rfl (Conv.of rfl) rfl) ?_
  refine oC (oLt rfl rfl rfl) ?_
  refine oN ?_
  refine aC rfl (fun h2 => ?_) (fun h2 => ?_)
  · have hh := szR_neg (of_decide_eq_true h2)
    refine aS (aR ?_)
    refine oC (oA rfl (Conv.of rfl) rfl) ?_
    refine oN ?_
    refine aT ?_
    repeat first | refine rS ?_ | refine rB ?_
    refine finP (.v rfl (Conv.of rfl)) rfl ?_
    rw [szR_no (by omega)]; rfl
  · obtain ⟨h6, h7⟩ := szR_pos (of_decide_eq_false h2)
    refine aW ?_
    refine aS (aR ?_)
    refine oC (oM rfl (Conv.of rfl) rfl) ?_
    refine oC (oA rfl (Conv.of rfl) rfl) ?_
    refine oN ?_
    refine aT ?_
    repeat first | refine rS ?_ | refine rB ?_
    refine finP (.v rfl (Conv.of rfl)) rfl ?_
    rw [szR_yes (show ¬ left < (tW x : Int) by omega), h7]
    show AV.v _ = AV.v _
    congr 1; omega
theorem szEvent_ct (x : Evt) (left : Int) (h0 : 0 ≤ left ∧ left ≤ 1048576) : CtP Tryz.prog 31 [.v x, .v left] (.v (szR (tE x) left)) := by
  refine Ct.intro Tryz.func31 rfl rfl ?_
  refine aS (aR ?_)
  refine oC (op_box (o := 0) ty72 rfl (Conv.of rfl) rfl rfl) ?_
  refine oC (oA rfl (Conv.of rfl) rfl) ?_
  refine oN ?_
  refine aS (aR ?_)
  refine oC (oF f72_4 rfl rfl) ?_
  refine oC (oD ty70 rfl rfl rfl) ?_
  refine oC (oM rfl (Conv.of rfl) rfl) ?_
  refine oC (oL fb86 (.cons rfl (Conv.of rfl) (.cons rfl (Conv.of rfl) (.nil _))) (szVote_ct _ _ h0) (aK rfl rfl (aK rfl rfl aK0)) rfl rfl) ?_
  refine oC (oA rfl (Conv.of rfl) rfl) ?_
  refine oN ?_
  refine aS (aS (aR ?_))
  refine oC (oM rfl (Conv.of rfl) rfl) ?_
  refine oC (oLt rfl rfl rfl) ?_
  refine oN ?_
  refine aC rfl (fun h => ?_) (fun h => ?_)
  · have hh := szR_neg (of_decide_eq_true h)
    refine aS (aR ?_)
    refine oC (oA rfl (Conv.of rfl) rfl) ?_
    refine oN ?_
    refine aT ?_
    repeat first | refine rS ?_ | refine rB ?_
    refine finP (.v rfl (Conv.of rfl)) rfl ?_
    rw [szR_no (show left < (tE x : Int) from hh)]; rfl
  · refine aW ?_
    refine aS (aR ?_)
    refine oC (oM rfl (Conv.of rfl) rfl) ?_
    refine oC (oA rfl (Conv.of rfl) rfl) ?_
    refine oN ?_
    refine aT ?_
    repeat first | refine rS ?_ | refine rB ?_
    exact finP (.v rfl (Conv.of rfl)) rfl rfl
set_option maxHeartbeats 1000000 in
theorem szEventS_ct (l : List Evt) (left : Int) (h0 : 0 ≤ left ∧ left ≤ 1048576) : CtP Tryz.prog 14 [.v l, .v left] (.v (szR (tL tE l) left)) := by
  have htl : tL tE l = l.length + tS tE l := rfl
  refine Ct.intro Tryz.func14 rfl rfl ?_
  refine awp_bigL 0 rfl (fun hB => ?_)
  refine aS (aR ?_)
  refine oC (oA rfl (Conv.of rfl) rfl) ?_
  refine oN ?_
  refine aS (aR ?_)
  refine oC (oM rfl (Conv.of rfl) rfl) ?_
  refine oC (oM rfl (Conv.of rfl) rfl) ?_
  refine oC (oE sl41 rfl rfl) ?_
  refine oC (op_sub rfl rfl rfl (by omega)) ?_
  refine oC (oA rfl (Conv.of rfl) rfl) ?_
  refine oN ?_
  refine aS (aS (aR ?_))
  refine oC (oM rfl (Conv.of rfl) rfl) ?_
  refine oC (oLt rfl rfl rfl) ?_
  refine oN ?_
  refine aC rfl (fun h => ?_) (fun h => ?_)
  · have hh := of_decide_eq_true h
    refine aS (aR ?_)
    refine oC (oA rfl (Conv.of rfl) rfl) ?_
    refine oN ?_
    refine aT ?_
    repeat first | refine rS ?_ | refine rB ?_
    refine finP (.v rfl (Conv.of rfl)) rfl ?_
    rw [szR_no (by omega)]; rfl
  have hh := of_decide_eq_false h
  refine aW ?_
  refine aS (aS (aR ?_))
  refine oC (oA rfl (Conv.of rfl) rfl) ?_
  refine oN ?_
  refine aB ?_
  refine awp_loop' (fun n_ s => ∃ (k : Nat), ∃ (y : Int), ∃ (hn : n_ + k = l.length), ∃ (hy : y = left - (l.length : Int) - (tS tE (l.take k) : Int)), ∃ (hp : 0 ≤ y), s = mkSt 27 [(0, .v l), (1, .v y), (5, .v (k : Int))] []) (l.length) ⟨0, left - (l.length : Int), by omega, (by simp [tS]), (by omega), rfl⟩ (Le.mk rfl (tle rfl (rfl) rfl (tle rfl (rfl) rfl (tle rfl (rfl) rfl tln))) oln noS) ?_
  rintro n_ s ⟨k, y, hn, hy, hp, rfl⟩
  refine aS (aS (aR ?_))
  refine oC (oM rfl (Conv.of rfl) rfl) ?_
  refine oC (oM rfl (Conv.of rfl) rfl) ?_
  refine oC (oE sl41 rfl rfl) ?_
  refine oC (oLt rfl rfl rfl) ?_
  refine oN ?_
  refine aC rfl (fun h2 => ?_) (fun h2 => ?_)
  · have hlt : k < l.length := by simpa using h2
    have hx : l[k]? = some l[k] := List.getElem?_eq_getElem hlt
    generalize l[k] = x at hx
    have hx' : l[(k : Int).toNat]? = some x := hx
    have hst := tS_at tE hx
    have hle := tS_le tE l (k + 1)
    refine aW ?_
    refine aS (aB ?_)
    refine aS (aR ?_)
    refine oC (oM rfl (Conv.of rfl) rfl) ?_
    refine oC (oM rfl (Conv.of rfl) rfl) ?_
    refine oC (op_ix sl41 rfl rfl rfl (by omega) hx') ?_
    refine oC (oDR ty72 rfl rfl) ?_
    refine oC (oM rfl (Conv.of rfl) rfl) ?_
    refine oC (oL fb31 (.cons rfl (Conv.of rfl) (.cons rfl (Conv.of rfl) (.nil _))) (szEvent_ct _ _ (by omega)) (aK rfl rfl (aK rfl rfl aK0)) rfl rfl) ?_
    refine oC (oA rfl (Conv.of rfl) rfl) ?_
    refine oN ?_
    refine aS (aR ?_)
    refine oC (oM rfl (Conv.of rfl) rfl) ?_
    refine oC (oLt rfl rfl rfl) ?_
    refine oN ?_
    refine aC rfl (fun h3 => ?_) (fun h3 => ?_)
    · have h4 := szR_neg (of_decide_eq_true h3)
      refine aS (aR ?_)
      refine oC (oA rfl (Conv.of rfl) rfl) ?_
      refine oN ?_
      refine aT ?_
      repeat first | refine rS ?_ | refine rB ?_
      refine finP (.v rfl (Conv.of rfl)) rfl ?_
      rw [szR_no (by omega)]; rfl
    · obtain ⟨h4, h5⟩ := szR_pos (of_decide_eq_false h3)
      refine aW ?_
      refine aR ?_
      refine oC (oM rfl (Conv.of rfl) rfl) ?_
      refine oC (oP rfl rfl rfl (by omega)) ?_
      refine oC (oA rfl (Conv.of rfl) rfl) ?_
      refine oN ?_
      repeat first | refine nS ?_ | refine nB ?_
      exact ⟨n_ - 1, _, by omega, ⟨k + 1, szR (tE x) y, by omega, (by rw [h5]; omega), (by rw [h5]; omega), rfl⟩, Le.mk rfl (tle rfl (rfl) rfl (tle rfl (rfl) rfl (tle rfl (rfl) rfl tln))) oln noS⟩
  · refine aE ?_
    repeat refine ex_seq ?_
    refine eB ?_
    have hk : l.length ≤ k := by simpa using h2
    rw [take_end hk] at hy
    refine aS (aR ?_)
    refine oC (oM rfl (Conv.of rfl) rfl) ?_
    refine oC (oA rfl (Conv.of rfl) rfl) ?_
    refine oN ?_
    refine aT ?_
    repeat first | refine rS ?_ | refine rB ?_
    refine finP (.v rfl (Conv.of rfl)) rfl ?_
    rw [szR_yes (by omega)]
    show AV.v _ = AV.v _
    congr 1; omega
theorem szPayS_ct (l : List Pay) (left : Int) (h0 : 0 ≤ left ∧ left ≤ 1048576) : CtP Tryz.prog 24 [.v l, .v left] (.v (szR l.length left)) := by
  refine Ct.intro Tryz.func24 rfl rfl ?_
  refine awp_bigL 0 rfl (fun hB => ?_)
  refine aS (aR ?_)
  refine oC (oA rfl (Conv.of rfl) rfl) ?_
  refine oN ?_
  refine aS (aR ?_)
  refine oC (oM rfl (Conv.of rfl) rfl) ?_
  refine oC (oM rfl (Conv.of rfl) rfl) ?_
  refine oC (oE sl56 rfl rfl) ?_
  refine oC (op_sub rfl rfl rfl (by omega)) ?_
  refine oC (oA rfl (Conv.of rfl) rfl) ?_
  refine oN ?_
  refine aS (aS (aR ?_))
  refine oC (oM rfl (Conv.of rfl) rfl) ?_
  refine oC (oLt rfl rfl rfl) ?_
  refine oN ?_
  refine aC rfl (fun h => ?_) (fun h => ?_)
  · have hh := of_decide_eq_true h
    refine aS (aR ?_)
    refine oC (oA rfl (Conv.of rfl) rfl) ?_
    refine oN ?_
    refine aT ?_
    repeat first | refine rS ?_ | refine rB ?_
    refine finP (.v rfl (Conv.of rfl)) rfl ?_
    rw [szR_no (by omega)]; rfl
  · have hh := of_decide_eq_false h
    refine aW ?_
    refine aS (aR ?_)
    refine oC (oM rfl (Conv.of rfl) rfl) ?_
    refine oC (oA rfl (Conv.of rfl) rfl) ?_
    refine oN ?_
    refine aT ?_
    repeat first | refine rS ?_ | refine rB ?_
    refine finP (.v rfl (Conv.of rfl)) rfl ?_
    rw [szR_yes (by omega)]; rfl
end Go.Proofs.YtmhmeppocbcmeaaGreat

/- The exact laws: comparisons. -/
set_option linter.unusedVariables false
set_option linter.unusedSimpArgs false
namespace Go.Proofs.YtmhmeppocbcmeaaGreat
open Go Go.Wt
set_option maxHeartbeats 1000000 in
theorem eqPay_ct (a b : Pay) : CtP Tryz.prog 85 [.v a, .v b] (.v (decide (a = b))) := by
  refine Ct.intro Tryz.func85 rfl rfl ?_
  refine aS (aR ?_)
  refine oC (op_box (o := 0) ty75 rfl (Conv.of rfl) rfl rfl) ?_
  refine oC (op_box (o := 1) ty75 rfl (Conv.of rfl) rfl rfl) ?_
  refine oC (oA rfl (Conv.of rfl) rfl) ?_
  refine oN ?_
  refine aS (aS (aR ?_))
  refine oC (oF f75_0 rfl rfl) ?_
  refine oC (oD ty3 rfl rfl rfl) ?_
  refine oC (oF f75_0 rfl rfl) ?_
  refine oC (oD ty3 rfl rfl rfl) ?_
  refine oC (op_neq rfl rfl rfl) ?_
  refine oN ?_
  refine aC rfl (fun h0 => ?_) (fun h0 => ?_)
  · refine aS (aR ?_)
    refine oC (oA rfl (Conv.of rfl) rfl) ?_
    refine oN ?_
    refine aT ?_
    repeat first | refine rS ?_ | refine rB ?_
    refine finP (.v rfl (Conv.of rfl)) rfl ?_
    show AV.v _ = AV.v _
    congr 1
    cases a; cases b; simp_all
  refine aW ?_
  refine aS (aS (aR ?_))
  refine oC (oF f75_1 rfl rfl) ?_
  refine oC (oD ty3 rfl rfl rfl) ?_
  refine oC (oF f75_1 rfl rfl) ?_
  refine oC (oD ty3 rfl rfl rfl) ?_
  refine oC (op_neq rfl rfl rfl) ?_
  refine oN ?_
  refine aC rfl (fun h1 => ?_) (fun h1 => ?_)
  · refine aS (aR ?_)
    refine oC (oA rfl (Conv.of rfl) rfl) ?_
    refine oN ?_
    refine aT ?_
    repeat first | refine rS ?_ | refine rB ?_
    refine finP (.v rfl (Conv.of rfl)) rfl ?_
    show AV.v _ = AV.v _
    congr 1
    cases a; cases b; simp_all
  refine aW ?_
  refine aS (aS (aR ?_))
  refine oC (oF f75_2 rfl rfl) ?_
  refine oC (oD ty3 rfl rfl rfl) ?_
  refine oC (oF f75_2 rfl rfl) ?_
  refine oC (oD ty3 rfl rfl rfl) ?_
  refine oC (op_neq rfl rfl rfl) ?_
  refine oN ?_
  refine aC rfl (fun h2 => ?_) (fun h2 => ?_)
  · refine aS (aR ?_)
    refine oC (oA rfl (Conv.of rfl) rfl) ?_
    refine oN ?_
    refine aT ?_
    repeat first | refine rS ?_ | refine rB ?_
    refine finP (.v rfl (Conv.of rfl)) rfl ?_
    show AV.v _ = AV.v _
    congr 1
    cases a; cases b; simp_all
  refine aW ?_
  refine aS (aR ?_)
  refine oC (oA rfl (Conv.of rfl) rfl) ?_
  refine oN ?_
  refine aT ?_
  repeat first | refine rS ?_ | refine rB ?_
  refine finP (.v rfl (Conv.of rfl)) rfl ?_
  show AV.v _ = AV.v _
  congr 1
  cases a; cases b; simp_all
set_option maxHeartbeats 1000000 in
theorem eqItem_ct (a b : Itm) : CtP Tryz.prog 164 [.v a, .v b] (.v (decide (a = b))) := by
  refine Ct.intro Tryz.func164 rfl rfl ?_
  refine aS (aR ?_)
  refine oC (op_box (o := 0) ty143 rfl (Conv.of rfl) rfl rfl) ?_
  refine oC (op_box (o := 1) ty143 rfl (Conv.of rfl) rfl rfl) ?_
  refine oC (oA rfl (Conv.of rfl) rfl) ?_
  refine oN ?_
  refine aS (aS (aR ?_))
  refine oC (oF f143_0 rfl rfl) ?_
  refine oC (oD ty3 rfl rfl rfl) ?_
  refine oC (oF f143_0 rfl rfl) ?_
  refine oC (oD ty3 rfl rfl rfl) ?_
  refine oC (op_neq rfl rfl rfl) ?_
  refine oN ?_
  refine aC rfl (fun h0 => ?_) (fun h0 => ?_)
  · refine aS (aR ?_)
    refine oC (oA rfl (Conv.of rfl) rfl) ?_
    refine oN ?_
    refine aT ?_
    repeat first | refine rS ?_ | refine rB ?_
    refine finP (.v rfl (Conv.of rfl)) rfl ?_
    show AV.v _ = AV.v _
    congr 1
    cases a; cases b; simp_all
  refine aW ?_
  refine aS (aS (aR ?_))
  refine oC (oF f143_1 rfl rfl) ?_
  refine oC (oD ty75 rfl rfl rfl) ?_
  refine oC (oF f143_1 rfl rfl) ?_
  refine oC (oD ty75 rfl rfl rfl) ?_
  refine oC (oL fb85 (.cons rfl (Conv.of rfl) (.cons rfl (Conv.of rfl) (.nil _))) (eqPay_ct _ _) (aK rfl rfl (aK rfl rfl aK0)) rfl rfl) ?_
  refine oC (op_not rfl rfl) ?_
  refine oN ?_
  refine aC rfl (fun h1 => ?_) (fun h1 => ?_)
  · refine aS (aR ?_)
    refine oC (oA rfl (Conv.of rfl) rfl) ?_
    refine oN ?_
    refine aT ?_
    repeat first | refine rS ?_ | refine rB ?_
    refine finP (.v rfl (Conv.of rfl)) rfl ?_
    show AV.v _ = AV.v _
    congr 1
    cases a; cases b; simp_all
  refine aW ?_
  refine aS (aR ?_)
  refine oC (oA rfl (Conv.of rfl) rfl) ?_
  refine oN ?_
  refine aT ?_
  repeat first | refine rS ?_ | refine rB ?_
  refine finP (.v rfl (Conv.of rfl)) rfl ?_
  show AV.v _ = AV.v _
  congr 1
  cases a; cases b; simp_all
set_option maxHeartbeats 1000000 in
theorem eqItemS_ct (a b : List Itm) : CtP Tryz.prog 140 [.v a, .v b] (.v (decide (a = b))) := by
  refine Ct.intro Tryz.func140 rfl rfl ?_
  refine awp_bigL 0 rfl (fun hB => ?_)
  refine aS (aR ?_)
  refine oC (oA rfl (Conv.of rfl) rfl) ?_
  refine oN ?_
  refine aS (aS (aR ?_))
  refine oC (oM rfl (Conv.of rfl) rfl) ?_
  refine oC (oE sl27 rfl rfl) ?_
  refine oC (oM rfl (Conv.of rfl) rfl) ?_
  refine oC (oE sl27 rfl rfl) ?_
  refine oC (op_neq rfl rfl rfl) ?_
  refine oN ?_
  refine aC rfl (fun h => ?_) (fun h => ?_)
  · have hne : ¬ a.length = b.length := by simp at h; omega
    refine aS (aR ?_)
    refine oC (oA rfl (Conv.of rfl) rfl) ?_
    refine oN ?_
    refine aT ?_
    repeat first | refine rS ?_ | refine rB ?_
    refine finP (.v rfl (Conv.of rfl)) rfl ?_
    show AV.v _ = AV.v _
    congr 1
    exact (decide_eq_false fun e => hne (by rw [e])).symm
  have hle : a.length = b.length := by simp at h; omega
  refine aW ?_
  refine aS (aS (aR ?_))
  refine oC (oA rfl (Conv.of rfl) rfl) ?_
  refine oN ?_
  refine aB ?_
  refine awp_loop' (fun n_ s => ∃ (k : Nat), ∃ (hn : n_ + k = a.length), ∃ (hp : decide (a = b) = decide (a.drop k = b.drop k)), s = mkSt 27 [(0, .v a), (1, .v b), (5, .v (k : Int))] []) (a.length) ⟨0, by omega, rfl, rfl⟩ (Le.mk rfl (tle rfl (rfl) rfl (tle rfl (rfl) rfl (tle rfl (rfl) rfl tln))) oln noS) ?_
  rintro n_ s ⟨k, hn, hp, rfl⟩
  refine aS (aS (aR ?_))
  refine oC (oM rfl (Conv.of rfl) rfl) ?_
  refine oC (oM rfl (Conv.of rfl) rfl) ?_
  refine oC (oE sl27 rfl rfl) ?_
  refine oC (oLt rfl rfl rfl) ?_
  refine oN ?_
  refine aC rfl (fun h2 => ?_) (fun h2 => ?_)
  · have hlt : k < a.length := by simpa using h2
    have hx : a[k]? = some a[k] := List.getElem?_eq_getElem hlt
    have hy : b[k]? = some (b[k]'(by omega)) := List.getElem?_eq_getElem (by omega)
    generalize a[k] = x at hx
    generalize b[k]'(by omega) = y at hy
    have hx' : a[(k : Int).toNat]? = some x := hx
    have hy' : b[(k : Int).toNat]? = some y := hy
    have hs := same_drop hx hy
    refine aW ?_
    refine aS (aB ?_)
    refine aS (dS ?_)
    refine dC (oM rfl (Conv.of rfl) rfl) ?_
    refine dC (oM rfl (Conv.of rfl) rfl) ?_
    refine dC (op_ix sl27 rfl rfl rfl (by omega) hx') ?_
    refine dC (oDR ty143 rfl rfl) ?_
    refine dC (oM rfl (Conv.of rfl) rfl) ?_
    refine dC (oM rfl (Conv.of rfl) rfl) ?_
    refine dC (op_ix sl27 rfl rfl rfl (by omega) hy') ?_
    refine dC (oDR ty143 rfl rfl) ?_
    refine dC (oL fb164 (.cons rfl (Conv.of rfl) (.cons rfl (Conv.of rfl) (.nil _))) (eqItem_ct _ _) (aK rfl rfl (aK rfl rfl aK0)) rfl rfl) ?_
    refine dC (op_not rfl rfl) ?_
    refine dr_nil mixed rfl ?_
    refine aC rfl (fun h3 => ?_) (fun h3 => ?_)
    · have h4 : decide (x = y) = false := not_t h3
      refine aS (aR ?_)
      refine oC (oA rfl (Conv.of rfl) rfl) ?_
      refine oN ?_
      refine aT ?_
      repeat first | refine rS ?_ | refine rB ?_
      refine finP (.v rfl (Conv.of rfl)) rfl ?_
      show AV.v _ = AV.v _
      congr 1
      rw [hp, hs, h4]; rfl
    · have h4 : decide (x = y) = true := not_f h3
      refine aW ?_
      refine aR ?_
      refine oC (oM rfl (Conv.of rfl) rfl) ?_
      refine oC (oP rfl rfl rfl (by omega)) ?_
      refine oC (oA rfl (Conv.of rfl) rfl) ?_
      refine oN ?_
      repeat first | refine nS ?_ | refine nB ?_
      exact ⟨n_ - 1, _, by omega, ⟨k + 1, by omega, (by rw [hp, hs, h4]; rfl), rfl⟩, Le.mk rfl (tle rfl (rfl) rfl (tle rfl (rfl) rfl (tle rfl (rfl) rfl tln))) oln noS⟩
  · refine aE ?_
    repeat refine ex_seq ?_
    refine eB ?_
    have hk : a.length ≤ k := by simpa using h2
    refine aS (aR ?_)
    refine oC (oA rfl (Conv.of rfl) rfl) ?_
    refine oN ?_
    refine aT ?_
    repeat first | refine rS ?_ | refine rB ?_
    refine finP (.v rfl (Conv.of rfl)) rfl ?_
    show AV.v _ = AV.v _
    congr 1
    rw [hp, drop_end hk, drop_end (by omega)]; simp
set_option maxHeartbeats 1000000 in
theorem eqVote_ct (a b : Vote) : CtP Tryz.prog 88 [.v a, .v b] (.v (decide (a = b))) := by
  refine Ct.intro Tryz.func88 rfl rfl ?_
  refine aS (aR ?_)
  refine oC (op_box (o := 0) ty38 rfl (Conv.of rfl) rfl rfl) ?_
  refine oC (op_box (o := 1) ty38 rfl (Conv.of rfl) rfl rfl) ?_
  refine oC (oA rfl (Conv.of rfl) rfl) ?_
  refine oN ?_
  refine aS (aS (aR ?_))
  refine oC (oF f38_0 rfl rfl) ?_
  refine oC (oD ty3 rfl rfl rfl) ?_
  refine oC (oF f38_0 rfl rfl) ?_
  refine oC (oD ty3 rfl rfl rfl) ?_
  refine oC (op_neq rfl rfl rfl) ?_
  refine oN ?_
  refine aC rfl (fun h0 => ?_) (fun h0 => ?_)
  · refine aS (aR ?_)
    refine oC (oA rfl (Conv.of rfl) rfl) ?_
    refine oN ?_
    refine aT ?_
    repeat first | refine rS ?_ | refine rB ?_
    refine finP (.v rfl (Conv.of rfl)) rfl ?_
    show AV.v _ = AV.v _
    congr 1
    cases a; cases b; simp_all
  refine aW ?_
  refine aS (aS (aR ?_))
  refine oC (oF f38_1 rfl rfl) ?_
  refine oC (oD ty27 rfl rfl rfl) ?_
  refine oC (oF f38_1 rfl rfl) ?_
  refine oC (oD ty27 rfl rfl rfl) ?_
  refine oC (oL fb140 (.cons rfl (Conv.of rfl) (.cons rfl (Conv.of rfl) (.nil _))) (eqItemS_ct _ _) (aK rfl rfl (aK rfl rfl aK0)) rfl rfl) ?_
  refine oC (op_not rfl rfl) ?_
  refine oN ?_
  refine aC rfl (fun h1 => ?_) (fun h1 => ?_)
  · refine aS (aR ?_)
    refine oC (oA rfl (Conv.of rfl) rfl) ?_
    refine oN ?_
    refine aT ?_
    repeat first | refine rS ?_ | refine rB ?_
    refine finP (.v rfl (Conv.of rfl)) rfl ?_
    show AV.v _ = AV.v _
    congr 1
    cases a; cases b; simp_all
  refine aW ?_
  refine aS (aR ?_)
  refine oC (oA rfl (Conv.of rfl) rfl) ?_
  refine oN ?_
  refine aT ?_
  repeat first | refine rS ?_ | refine rB ?_
  refine finP (.v rfl (Conv.of rfl)) rfl ?_
  show AV.v _ = AV.v _
  congr 1
  cases a; cases b; simp_all
set_option maxHeartbeats 1000000 in
theorem eqVoteS_ct (a b : List Vote) : CtP Tryz.prog 68 [.v a, .v b] (.v (decide (a = b))) := by
  refine Ct.intro Tryz.func68 rfl rfl ?_
  refine awp_bigL 0 rfl (fun hB => ?_)
  refine aS (aR ?_)
  refine oC (oA rfl (Conv.of rfl) rfl) ?_
  refine oN ?_
  refine aS (aS (aR ?_))
  refine oC (oM rfl (Conv.of rfl) rfl) ?_
  refine oC (oE sl24 rfl rfl) ?_
  refine oC (oM rfl (Conv.of rfl) rfl) ?_
  refine oC (oE sl24 rfl rfl) ?_
  refine oC (op_neq rfl rfl rfl) ?_
  refine oN ?_
  refine aC rfl (fun h => ?_) (fun h => ?_)
  · have hne : ¬ a.length = b.length := by simp at h; omega
    refine aS (aR ?_)
    refine oC (oA rfl (Conv.of rfl) rfl) ?_
    refine oN ?_
    refine aT ?_
    repeat first | refine rS ?_ | refine rB ?_
    refine finP (.v rfl (Conv.of rfl)) rfl ?_
    show AV.v _ = AV.v _
    congr 1
    exact (decide_eq_false fun e => hne (by rw [e])).symm
  have hle : a.length = b.length := by simp at h; omega
  refine aW ?_
  refine aS (aS (aR ?_))
  refine oC (oA rfl (Conv.of rfl) rfl) ?_
  refine oN ?_
  refine aB ?_
  refine awp_loop' (fun n_ s => ∃ (k : Nat), ∃ (hn : n_ + k = a.length), ∃ (hp : decide (a = b) = decide (a.drop k = b.drop k)), s = mkSt 27 [(0, .v a), (1, .v b), (5, .v (k : Int))] []) (a.length) ⟨0, by omega, rfl, rfl⟩ (Le.mk rfl (tle rfl (rfl) rfl (tle rfl (rfl) rfl (tle rfl (rfl) rfl tln))) oln noS) ?_
  rintro n_ s ⟨k, hn, hp, rfl⟩
  refine aS (aS (aR ?_))
  refine oC (oM rfl (Conv.of rfl) rfl) ?_
  refine oC (oM rfl (Conv.of rfl) rfl) ?_
  refine oC (oE sl24 rfl rfl) ?_
  refine oC (oLt rfl rfl rfl) ?_
  refine oN ?_
  refine aC rfl (fun h2 => ?_) (fun h2 => ?_)
  · have hlt : k < a.length := by simpa using h2
    have hx : a[k]? = some a[k] := List.getElem?_eq_getElem hlt
    have hy : b[k]? = some (b[k]'(by omega)) := List.getElem?_eq_getElem (by omega)
    generalize a[k] = x at hx
    generalize b[k]'(by omega) = y at hy
    have hx' : a[(k : Int).toNat]? = some x := hx
    have hy' : b[(k : Int).toNat]? = some y := hy
    have hs := same_drop hx hy
    refine aW ?_
    refine aS (aB ?_)
    refine aS (dS ?_)
    refine dC (oM rfl (Conv.of rfl) rfl) ?_
    refine dC (oM rfl (Conv.of rfl) rfl) ?_
    refine dC (op_ix sl24 rfl rfl rfl (by omega) hx') ?_
    refine dC (oDR ty38 rfl rfl) ?_
    refine dC (oM rfl (Conv.of rfl) rfl) ?_
    refine dC (oM rfl (Conv.of rfl) rfl) ?_
    refine dC (op_ix sl24 rfl rfl rfl (by omega) hy') ?_
    refine dC (oDR ty38 rfl rfl) ?_
    refine dC (oL fb88 (.cons rfl (Conv.of rfl) (.cons rfl (Conv.of rfl) (.nil _))) (eqVote_ct _ _) (aK rfl rfl (aK rfl rfl aK0)) rfl rfl) ?_
    refine dC (op_not rfl rfl) ?_
    refine dr_nil mixed rfl ?_
    refine aC rfl (fun h3 => ?_) (fun h3 => ?_)
    · have h4 : decide (x = y) = false := not_t h3
      refine aS (aR ?_)
      refine oC (oA rfl (Conv.of rfl) rfl) ?_
      refine oN ?_
      refine aT ?_
      repeat first | refine rS ?_ | refine rB ?_
      refine finP (.v rfl (Conv.of rfl)) rfl ?_
      show AV.v _ = AV.v _
      congr 1
      rw [hp, hs, h4]; rfl
    · have h4 : decide (x = y) = true := not_f h3
      refine aW ?_
      refine aR ?_
      refine oC (oM rfl (Conv.of rfl) rfl) ?_
      refine oC (oP rfl rfl rfl (by omega)) ?_
      refine oC (oA rfl (Conv.of rfl) rfl) ?_
      refine oN ?_
      repeat first | refine nS ?_ | refine nB ?_
      exact ⟨n_ - 1, _, by omega, ⟨k + 1, by omega, (by rw [hp, hs, h4]; rfl), rfl⟩, Le.mk rfl (tle rfl (rfl) rfl (tle rfl (rfl) rfl (tle rfl (rfl) rfl tln))) oln noS⟩
  · refine aE ?_
    repeat refine ex_seq ?_
    refine eB ?_
    have hk : a.length ≤ k := by simpa using h2
    refine aS (aR ?_)
    refine oC (oA rfl (Conv.of rfl) rfl) ?_
    refine oN ?_
    refine aT ?_
    repeat first | refine rS ?_ | refine rB ?_
    refine finP (.v rfl (Conv.of rfl)) rfl ?_
    show AV.v _ = AV.v _
    congr 1
    rw [hp, drop_end hk, drop_end (by omega)]; simp
set_option maxHeartbeats 1000000 in
theorem eqNode_ct (a b : Nod) : CtP Tryz.prog 126 [.v a, .v b] (.v (decide (a = b))) := by
  refine Ct.intro Tryz.func126 rfl rfl ?_
  refine aS (aR ?_)
  refine oC (op_box (o := 0) ty90 rfl (Conv.of rfl) rfl rfl) ?_
  refine oC (op_box (o := 1) ty90 rfl (Conv.of rfl) rfl rfl) ?_
  refine oC (oA rfl (Conv.of rfl) rfl) ?_
  refine oN ?_
  refine aS (aS (aR ?_))
  refine oC (oF f90_0 rfl rfl) ?_
  refine oC (oD ty3 rfl rfl rfl) ?_
  refine oC (oF f90_0 rfl rfl) ?_
  refine oC (oD ty3 rfl rfl rfl) ?_
  refine oC (op_neq rfl rfl rfl) ?_
  refine oN ?_
  refine aC rfl (fun h0 => ?_) (fun h0 => ?_)
  · refine aS (aR ?_)
    refine oC (oA rfl (Conv.of rfl) rfl) ?_
    refine oN ?_
    refine aT ?_
    repeat first | refine rS ?_ | refine rB ?_
    refine finP (.v rfl (Conv.of rfl)) rfl ?_
    show AV.v _ = AV.v _
    congr 1
    cases a; cases b; simp_all
  refine aW ?_
  refine aS (aS (aR ?_))
  refine oC (oF f90_1 rfl rfl) ?_
  refine oC (oD ty3 rfl rfl rfl) ?_
  refine oC (oF f90_1 rfl rfl) ?_
  refine oC (oD ty3 rfl rfl rfl) ?_
  refine oC (op_neq rfl rfl rfl) ?_
  refine oN ?_
  refine aC rfl (fun h1 => ?_) (fun h1 => ?_)
  · refine aS (aR ?_)
    refine oC (oA rfl (Conv.of rfl) rfl) ?_
    refine oN ?_
    refine aT ?_
    repeat first | refine rS ?_ | refine rB ?_
    refine finP (.v rfl (Conv.of rfl)) rfl ?_
    show AV.v _ = AV.v _
    congr 1
    cases a; cases b; simp_all
  refine aW ?_
  refine aS (aS (aR ?_))
  refine oC (oF f90_2 rfl rfl) ?_
  refine oC (oD ty3 rfl rfl rfl) ?_
  refine oC (oF f90_2 rfl rfl) ?_
  refine oC (oD ty3 rfl rfl rfl) ?_
  refine oC (op_neq rfl rfl rfl) ?_
  refine oN ?_
  refine aC rfl (fun h2 => ?_) (fun h2 => ?_)
  · refine aS (aR ?_)
    refine oC (oA rfl (Conv.of rfl) rfl) ?_
    refine oN ?_
    refine aT ?_
    repeat first | refine rS ?_ | refine rB ?_
    refine finP (.v rfl (Conv.of rfl)) rfl ?_
    show AV.v _ = AV.v _
    congr 1
    cases a; cases b; simp_all
  refine aW ?_
  refine aS (aS (aR ?_))
  refine oC (oF f90_3 rfl rfl) ?_
  refine oC (oD ty24 rfl rfl rfl) ?_
  refine oC (oF f90_3 rfl rfl) ?_
  refine oC (oD ty24 rfl rfl rfl) ?_
  refine oC (oL fb68 (.cons rfl (Conv.of rfl) (.cons rfl (Conv.of rfl) (.nil _))) (eqVoteS_ct _ _) (aK rfl rfl (aK rfl rfl aK0)) rfl rfl) ?_
  refine oC (op_not rfl rfl) ?_
  refine oN ?_
  refine aC rfl (fun h3 => ?_) (fun h3 => ?_)
  · refine aS (aR ?_)
    refine oC (oA rfl (Conv.of rfl) rfl) ?_
    refine oN ?_
    refine aT ?_
    repeat first | refine rS ?_ | refine rB ?_
    refine finP (.v rfl (Conv.of rfl)) rfl ?_
    show AV.v _ = AV.v _
    congr 1
    cases a; cases b; simp_all
  refine aW ?_
  refine aS (aR ?_)
  refine oC (oA rfl (Conv.of rfl) rfl) ?_
  refine oN ?_
  refine aT ?_
  repeat first | refine rS ?_ | refine rB ?_
  refine finP (.v rfl (Conv.of rfl)) rfl ?_
  show AV.v _ = AV.v _
  congr 1
  cases a; cases b; simp_all
set_option maxHeartbeats 1000000 in
theorem eqNodeS_ct (a b : List Nod) : CtP Tryz.prog 67 [.v a, .v b] (.v (decide (a = b))) := by
  refine Ct.intro Tryz.func67 rfl rfl ?_
  refine awp_bigL 0 rfl (fun hB => ?_)
  refine aS (aR ?_)
  refine oC (oA rfl (Conv.of rfl) rfl) ?_
  refine oN ?_
  refine aS (aS (aR ?_))
  refine oC (oM rfl (Conv.of rfl) rfl) ?_
  refine oC (oE sl23 rfl rfl) ?_
  refine oC (oM rfl (Conv.of rfl) rfl) ?_
  refine oC (oE sl23 rfl rfl) ?_
  refine oC (op_neq rfl rfl rfl) ?_
  refine oN ?_
  refine aC rfl (fun h => ?_) (fun h => ?_)
  · have hne : ¬ a.length = b.length := by simp at h; omega
    refine aS (aR ?_)
    refine oC (oA rfl (Conv.of rfl) rfl) ?_
    refine oN ?_
    refine aT ?_
    repeat first | refine rS ?_ | refine rB ?_
    refine finP (.v rfl (Conv.of rfl)) rfl ?_
    show AV.v _ = AV.v _
    congr 1
    exact (decide_eq_false fun e => hne (by rw [e])).symm
  have hle : a.length = b.length := by simp at h; omega
  refine aW ?_
  refine aS (aS (aR ?_))
  refine oC (oA rfl (Conv.of rfl) rfl) ?_
  refine oN ?_
  refine aB ?_
  refine awp_loop' (fun n_ s => ∃ (k : Nat), ∃ (hn : n_ + k = a.length), ∃ (hp : decide (a = b) = decide (a.drop k = b.drop k)), s = mkSt 27 [(0, .v a), (1, .v b), (5, .v (k : Int))] []) (a.length) ⟨0, by omega, rfl, rfl⟩ (Le.mk rfl (tle rfl (rfl) rfl (tle rfl (rfl) rfl (tle rfl (rfl) rfl tln))) oln noS) ?_
  rintro n_ s ⟨k, hn, hp, rfl⟩
  refine aS (aS (aR ?_))
  refine oC (oM rfl (Conv.of rfl) rfl) ?_
  refine oC (oM rfl (Conv.of rfl) rfl) ?_
  refine oC (oE sl23 rfl rfl) ?_
  refine oC (oLt rfl rfl rfl) ?_
  refine oN ?_
  refine aC rfl (fun h2 => ?_) (fun h2 => ?_)
  · have hlt : k < a.length := by simpa using h2
    have hx : a[k]? = some a[k] := List.getElem?_eq_getElem hlt
    have hy : b[k]? = some (b[k]'(by omega)) := List.getElem?_eq_getElem (by omega)
    generalize a[k] = x at hx
    generalize b[k]'(by omega) = y at hy
    have hx' : a[(k : Int).toNat]? = some x := hx
    have hy' : b[(k : Int).toNat]? = some y := hy
    have hs := same_drop hx hy
    refine aW ?_
    refine aS (aB ?_)
    refine aS (dS ?_)
    refine dC (oM rfl (Conv.of rfl) rfl) ?_
    refine dC (oM rfl (Conv.of rfl) rfl) ?_
    refine dC (op_ix sl23 rfl rfl rfl (by omega) hx') ?_
    refine dC (oDR ty90 rfl rfl) ?_
    refine dC (oM rfl (Conv.of rfl) rfl) ?_
    refine dC (oM rfl (Conv.of rfl) rfl) ?_
    refine dC (op_ix sl23 rfl rfl rfl (by omega) hy') ?_
    refine dC (oDR ty90 rfl rfl) ?_
    refine dC (oL fb126 (.cons rfl (Conv.of rfl) (.cons rfl (Conv.of rfl) (.nil _))) (eqNode_ct _ _) (aK rfl rfl (aK rfl rfl aK0)) rfl rfl) ?_
    refine dC (op_not rfl rfl) ?_
    refine dr_nil mixed rfl ?_
    refine aC rfl (fun h3 => ?_) (fun h3 => ?_)
    · have h4 : decide (x = y) = false := not_t h3
      refine aS (aR ?_)
      refine oC (oA rfl (Conv.of rfl) rfl) ?_
      refine oN ?_
      refine aT ?_
      repeat first | refine rS ?_ | refine rB ?_
      refine finP (.v rfl (Conv.of rfl)) rfl ?_
      show AV.v _ = AV.v _
      congr 1
      rw [hp, hs, h4]; rfl
    · have h4 : decide (x = y) = true := not_f h3
      refine aW ?_
      refine aR ?_
      refine oC (oM rfl (Conv.of rfl) rfl) ?_
      refine oC (oP rfl rfl rfl (by omega)) ?_
      refine oC (oA rfl (Conv.of rfl) rfl) ?_
      refine oN ?_
      repeat first | refine nS ?_ | refine nB ?_
      exact ⟨n_ - 1, _, by omega, ⟨k + 1, by omega, (by rw [hp, hs, h4]; rfl), rfl⟩, Le.mk rfl (tle rfl (rfl) rfl (tle rfl (rfl) rfl (tle rfl (rfl) rfl tln))) oln noS⟩
  · refine aE ?_
    repeat refine ex_seq ?_
    refine eB ?_
    have hk : a.length ≤ k := by simpa using h2
    refine aS (aR ?_)
    refine oC (oA rfl (Conv.of rfl) rfl) ?_
    refine oN ?_
    refine aT ?_
    repeat first | refine rS ?_ | refine rB ?_
    refine finP (.v rfl (Conv.of rfl)) rfl ?_
    show AV.v _ = AV.v _
    congr 1
    rw [hp, drop_end hk, drop_end (by omega)]; simp
set_option maxHeartbeats 1000000 in
theorem eqWorld_ct (a b : Wrld) : CtP Tryz.prog 18 [.v a, .v b] (.v (decide (a = b))) := by
  refine Ct.intro Tryz.func18 rfl rfl ?_
  refine aS (aR ?_)
  refine oC (op_box (o := 0) ty26 rfl (Conv.of rfl) rfl rfl) ?_
  refine oC (op_box (o := 1) ty26 rfl (Conv.of rfl) rfl rfl) ?_
  refine oC (oA rfl (Conv.of rfl) rfl) ?_
  refine oN ?_
  refine aS (aS (aR ?_))
  refine oC (oF f26_0 rfl rfl) ?_
  refine oC (oD ty3 rfl rfl rfl) ?_
  refine oC (oF f26_0 rfl rfl) ?_
  refine oC (oD ty3 rfl rfl rfl) ?_
  refine oC (op_neq rfl rfl rfl) ?_
  refine oN ?_
  refine aC rfl (fun h0 => ?_) (fun h0 => ?_)
  · refine aS (aR ?_)
    refine oC (oA rfl (Conv.of rfl) rfl) ?_
    refine oN ?_
    refine aT ?_
    repeat first | refine rS ?_ | refine rB ?_
    refine finP (.v rfl (Conv.of rfl)) rfl ?_
    show AV.v _ = AV.v _
    congr 1
    cases a; cases b; simp_all
  refine aW ?_
  refine aS (aS (aR ?_))
  refine oC (oF f26_1 rfl rfl) ?_
  refine oC (oD ty23 rfl rfl rfl) ?_
  refine oC (oF f26_1 rfl rfl) ?_
  refine oC (oD ty23 rfl rfl rfl) ?_
  refine oC (oL fb67 (.cons rfl (Conv.of rfl) (.cons rfl (Conv.of rfl) (.nil _))) (eqNodeS_ct _ _) (aK rfl rfl (aK rfl rfl aK0)) rfl rfl) ?_
  refine oC (op_not rfl rfl) ?_
  refine oN ?_
  refine aC rfl (fun h1 => ?_) (fun h1 => ?_)
  · refine aS (aR ?_)
    refine oC (oA rfl (Conv.of rfl) rfl) ?_
    refine oN ?_
    refine aT ?_
    repeat first | refine rS ?_ | refine rB ?_
    refine finP (.v rfl (Conv.of rfl)) rfl ?_
    show AV.v _ = AV.v _
    congr 1
    cases a; cases b; simp_all
  refine aW ?_
  refine aS (aS (aR ?_))
  refine oC (oF f26_2 rfl rfl) ?_
  refine oC (oD ty24 rfl rfl rfl) ?_
  refine oC (oF f26_2 rfl rfl) ?_
  refine oC (oD ty24 rfl rfl rfl) ?_
  refine oC (oL fb68 (.cons rfl (Conv.of rfl) (.cons rfl (Conv.of rfl) (.nil _))) (eqVoteS_ct _ _) (aK rfl rfl (aK rfl rfl aK0)) rfl rfl) ?_
  refine oC (op_not rfl rfl) ?_
  refine oN ?_
  refine aC rfl (fun h2 => ?_) (fun h2 => ?_)
  · refine aS (aR ?_)
    refine oC (oA rfl (Conv.of rfl) rfl) ?_
    refine oN ?_
    refine aT ?_
    repeat first | refine rS ?_ | refine rB ?_
    refine finP (.v rfl (Conv.of rfl)) rfl ?_
    show AV.v _ = AV.v _
    congr 1
    cases a; cases b; simp_all
  refine aW ?_
  refine aS (aS (aR ?_))
  refine oC (oF f26_3 rfl rfl) ?_
  refine oC (oD ty3 rfl rfl rfl) ?_
  refine oC (oF f26_3 rfl rfl) ?_
  refine oC (oD ty3 rfl rfl rfl) ?_
  refine oC (op_neq rfl rfl rfl) ?_
  refine oN ?_
  refine aC rfl (fun h3 => ?_) (fun h3 => ?_)
  · refine aS (aR ?_)
    refine oC (oA rfl (Conv.of rfl) rfl) ?_
    refine oN ?_
    refine aT ?_
    repeat first | refine rS ?_ | refine rB ?_
    refine finP (.v rfl (Conv.of rfl)) rfl ?_
    show AV.v _ = AV.v _
    congr 1
    cases a; cases b; simp_all
  refine aW ?_
  refine aS (aR ?_)
  refine oC (oA rfl (Conv.of rfl) rfl) ?_
  refine oN ?_
  refine aT ?_
  repeat first | refine rS ?_ | refine rB ?_
  refine finP (.v rfl (Conv.of rfl)) rfl ?_
  show AV.v _ = AV.v _
  congr 1
  cases a; cases b; simp_all
set_option maxHeartbeats 1000000 in
theorem eqEvent_ct (a b : Evt) : CtP Tryz.prog 35 [.v a, .v b] (.v (decide (a = b))) := by
  refine Ct.intro Tryz.func35 rfl rfl ?_
  refine aS (aR ?_)
  refine oC (op_box (o := 0) ty77 rfl (Conv.of rfl) rfl rfl) ?_
  refine oC (op_box (o := 1) ty77 rfl (Conv.of rfl) rfl rfl) ?_
  refine oC (oA rfl (Conv.of rfl) rfl) ?_
  refine oN ?_
  refine aS (aS (aR ?_))
  refine oC (oF f77_0 rfl rfl) ?_
  refine oC (oD ty3 rfl rfl rfl) ?_
  refine oC (oF f77_0 rfl rfl) ?_
  refine oC (oD ty3 rfl rfl rfl) ?_
  refine oC (op_neq rfl rfl rfl) ?_
  refine oN ?_
  refine aC rfl (fun h0 => ?_) (fun h0 => ?_)
  · refine aS (aR ?_)
    refine oC (oA rfl (Conv.of rfl) rfl) ?_
    refine oN ?_
    refine aT ?_
    repeat first | refine rS ?_ | refine rB ?_
    refine finP (.v rfl (Conv.of rfl)) rfl ?_
    show AV.v _ = AV.v _
    congr 1
    cases a; cases b; simp_all
  refine aW ?_
  refine aS (aS (aR ?_))
  refine oC (oF f77_1 rfl rfl) ?_
  refine oC (oD ty3 rfl rfl rfl) ?_
  refine oC (oF f77_1 rfl rfl) ?_
  refine oC (oD ty3 rfl rfl rfl) ?_
  refine oC (op_neq rfl rfl rfl) ?_
  refine oN ?_
  refine aC rfl (fun h1 => ?_) (fun h1 => ?_)
  · refine aS (aR ?_)
    refine oC (oA rfl (Conv.of rfl) rfl) ?_
    refine oN ?_
    refine aT ?_
    repeat first | refine rS ?_ | refine rB ?_
    refine finP (.v rfl (Conv.of rfl)) rfl ?_
    show AV.v _ = AV.v _
    congr 1
    cases a; cases b; simp_all
  refine aW ?_
  refine aS (aS (aR ?_))
  refine oC (oF f77_2 rfl rfl) ?_
  refine oC (oD ty3 rfl rfl rfl) ?_
  refine oC (oF f77_2 rfl rfl) ?_
  refine oC (oD ty3 rfl rfl rfl) ?_
  refine oC (op_neq rfl rfl rfl) ?_
  refine oN ?_
  refine aC rfl (fun h2 => ?_) (fun h2 => ?_)
  · refine aS (aR ?_)
    refine oC (oA rfl (Conv.of rfl) rfl) ?_
    refine oN ?_
    refine aT ?_
    repeat first | refine rS ?_ | refine rB ?_
    refine finP (.v rfl (Conv.of rfl)) rfl ?_
    show AV.v _ = AV.v _
    congr 1
    cases a; cases b; simp_all
  refine aW ?_
  refine aS (aS (aR ?_))
  refine oC (oF f77_3 rfl rfl) ?_
  refine oC (oD ty75 rfl rfl rfl) ?_
  refine oC (oF f77_3 rfl rfl) ?_
  refine oC (oD ty75 rfl rfl rfl) ?_
  refine oC (oL fb85 (.cons rfl (Conv.of rfl) (.cons rfl (Conv.of rfl) (.nil _))) (eqPay_ct _ _) (aK rfl rfl (aK rfl rfl aK0)) rfl rfl) ?_
  refine oC (op_not rfl rfl) ?_
  refine oN ?_
  refine aC rfl (fun h3 => ?_) (fun h3 => ?_)
  · refine aS (aR ?_)
    refine oC (oA rfl (Conv.of rfl) rfl) ?_
    refine oN ?_
    refine aT ?_
    repeat first | refine rS ?_ | refine rB ?_
    refine finP (.v rfl (Conv.of rfl)) rfl ?_
    show AV.v _ = AV.v _
    congr 1
    cases a; cases b; simp_all
  refine aW ?_
  refine aS (aS (aR ?_))
  refine oC (oF f77_4 rfl rfl) ?_
  refine oC (oD ty38 rfl rfl rfl) ?_
  refine oC (oF f77_4 rfl rfl) ?_
  refine oC (oD ty38 rfl rfl rfl) ?_
  refine oC (oL fb88 (.cons rfl (Conv.of rfl) (.cons rfl (Conv.of rfl) (.nil _))) (eqVote_ct _ _) (aK rfl rfl (aK rfl rfl aK0)) rfl rfl) ?_
  refine oC (op_not rfl rfl) ?_
  refine oN ?_
  refine aC rfl (fun h4 => ?_) (fun h4 => ?_)
  · refine aS (aR ?_)
    refine oC (oA rfl (Conv.of rfl) rfl) ?_
    refine oN ?_
    refine aT ?_
    repeat first | refine rS ?_ | refine rB ?_
    refine finP (.v rfl (Conv.of rfl)) rfl ?_
    show AV.v _ = AV.v _
    congr 1
    cases a; cases b; simp_all
  refine aW ?_
  refine aS (aR ?_)
  refine oC (oA rfl (Conv.of rfl) rfl) ?_
  refine oN ?_
  refine aT ?_
  repeat first | refine rS ?_ | refine rB ?_
  refine finP (.v rfl (Conv.of rfl)) rfl ?_
  show AV.v _ = AV.v _
  congr 1
  cases a; cases b; simp_all
set_option maxHeartbeats 1000000 in
theorem eqEventS_ct (a b : List Evt) : CtP Tryz.prog 19 [.v a, .v b] (.v (decide (a = b))) := by
  refine Ct.intro Tryz.func19 rfl rfl ?_
  refine awp_bigL 0 rfl (fun hB => ?_)
  refine aS (aR ?_)
  refine oC (oA rfl (Conv.of rfl) rfl) ?_
  refine oN ?_
  refine aS (aS (aR ?_))
  refine oC (oM rfl (Conv.of rfl) rfl) ?_
  refine oC (oE sl45 rfl rfl) ?_
  refine oC (oM rfl (Conv.of rfl) rfl) ?_
  refine oC (oE sl45 rfl rfl) ?_
  refine oC (op_neq rfl rfl rfl) ?_
  refine oN ?_
  refine aC rfl (fun h => ?_) (fun h => ?_)
  · have hne : ¬ a.length = b.length := by simp at h; omega
    refine aS (aR ?_)
    refine oC (oA rfl (Conv.of rfl) rfl) ?_
    refine oN ?_
    refine aT ?_
    repeat first | refine rS ?_ | refine rB ?_
    refine finP (.v rfl (Conv.of rfl)) rfl ?_
    show AV.v _ = AV.v _
    congr 1
    exact (decide_eq_false fun e => hne (by rw [e])).symm
  have hle : a.length = b.length := by simp at h; omega
  refine aW ?_
  refine aS (aS (aR ?_))
  refine oC (oA rfl (Conv.of rfl) rfl) ?_
  refine oN ?_
  refine aB ?_
  refine awp_loop' (fun n_ s => ∃ (k : Nat), ∃ (hn : n_ + k = a.length), ∃ (hp : decide (a = b) = decide (a.drop k = b.drop k)), s = mkSt 27 [(0, .v a), (1, .v b), (5, .v (k : Int))] []) (a.length) ⟨0, by omega, rfl, rfl⟩ (Le.mk rfl (tle rfl (rfl) rfl (tle rfl (rfl) rfl (tle rfl (rfl) rfl tln))) oln noS) ?_
  rintro n_ s ⟨k, hn, hp, rfl⟩
  refine aS (aS (aR ?_))
  refine oC (oM rfl (Conv.of rfl) rfl) ?_
  refine oC (oM rfl (Conv.of rfl) rfl) ?_
  refine oC (oE sl45 rfl rfl) ?_
  refine oC (oLt rfl rfl rfl) ?_
  refine oN ?_
  refine aC rfl (fun h2 => ?_) (fun h2 => ?_)
  · have hlt : k < a.length := by simpa using h2
    have hx : a[k]? = some a[k] := List.getElem?_eq_getElem hlt
    have hy : b[k]? = some (b[k]'(by omega)) := List.getElem?_eq_getElem (by omega)
    generalize a[k] = x at hx
    generalize b[k]'(by omega) = y at hy
    have hx' : a[(k : Int).toNat]? = some x := hx
    have hy' : b[(k : Int).toNat]? = some y := hy
    have hs := same_drop hx hy
    refine aW ?_
    refine aS (aB ?_)
    refine aS (dS ?_)
    refine dC (oM rfl (Conv.of rfl) rfl) ?_
    refine dC (oM rfl (Conv.of rfl) rfl) ?_
    refine dC (op_ix sl45 rfl rfl rfl (by omega) hx') ?_
    refine dC (oDR ty77 rfl rfl) ?_
    refine dC (oM rfl (Conv.of rfl) rfl) ?_
    refine dC (oM rfl (Conv.of rfl) rfl) ?_
    refine dC (op_ix sl45 rfl rfl rfl (by omega) hy') ?_
    refine dC (oDR ty77 rfl rfl) ?_
    refine dC (oL fb35 (.cons rfl (Conv.of rfl) (.cons rfl (Conv.of rfl) (.nil _))) (eqEvent_ct _ _) (aK rfl rfl (aK rfl rfl aK0)) rfl rfl) ?_
    refine dC (op_not rfl rfl) ?_
    refine dr_nil mixed rfl ?_
    refine aC rfl (fun h3 => ?_) (fun h3 => ?_)
    · have h4 : decide (x = y) = false := not_t h3
      refine aS (aR ?_)
      refine oC (oA rfl (Conv.of rfl) rfl) ?_
      refine oN ?_
      refine aT ?_
      repeat first | refine rS ?_ | refine rB ?_
      refine finP (.v rfl (Conv.of rfl)) rfl ?_
      show AV.v _ = AV.v _
      congr 1
      rw [hp, hs, h4]; rfl
    · have h4 : decide (x = y) = true := not_f h3
      refine aW ?_
      refine aR ?_
      refine oC (oM rfl (Conv.of rfl) rfl) ?_
      refine oC (oP rfl rfl rfl (by omega)) ?_
      refine oC (oA rfl (Conv.of rfl) rfl) ?_
      refine oN ?_
      repeat first | refine nS ?_ | refine nB ?_
      exact ⟨n_ - 1, _, by omega, ⟨k + 1, by omega, (by rw [hp, hs, h4]; rfl), rfl⟩, Le.mk rfl (tle rfl (rfl) rfl (tle rfl (rfl) rfl (tle rfl (rfl) rfl tln))) oln noS⟩
  · refine aE ?_
    repeat refine ex_seq ?_
    refine eB ?_
    have hk : a.length ≤ k := by simpa using h2
    refine aS (aR ?_)
    refine oC (oA rfl (Conv.of rfl) rfl) ?_
    refine oN ?_
    refine aT ?_
    repeat first | refine rS ?_ | refine rB ?_
    refine finP (.v rfl (Conv.of rfl)) rfl ?_
    show AV.v _ = AV.v _
    congr 1
    rw [hp, drop_end hk, drop_end (by omega)]; simp
set_option maxHeartbeats 1000000 in
theorem eqPayS_ct (a b : List Pay) : CtP Tryz.prog 29 [.v a, .v b] (.v (decide (a = b))) := by
  refine Ct.intro Tryz.func29 rfl rfl ?_
  refine awp_bigL 0 rfl (fun hB => ?_)
  refine aS (aR ?_)
  refine oC (oA rfl (Conv.of rfl) rfl) ?_
  refine oN ?_
  refine aS (aS (aR ?_))
  refine oC (oM rfl (Conv.of rfl) rfl) ?_
  refine oC (oE sl61 rfl rfl) ?_
  refine oC (oM rfl (Conv.of rfl) rfl) ?_
  refine oC (oE sl61 rfl rfl) ?_
  refine oC (op_neq rfl rfl rfl) ?_
  refine oN ?_
  refine aC rfl (fun h => ?_) (fun h => ?_)
  · have hne : ¬ a.length = b.length := by simp at h; omega
    refine aS (aR ?_)
    refine oC (oA rfl (Conv.of rfl) rfl) ?_
    refine oN ?_
    refine aT ?_
    repeat first | refine rS ?_ | refine rB ?_
    refine finP (.v rfl (Conv.of rfl)) rfl ?_
    show AV.v _ = AV.v _
    congr 1
    exact (decide_eq_false fun e => hne (by rw [e])).symm
  have hle : a.length = b.length := by simp at h; omega
  refine aW ?_
  refine aS (aS (aR ?_))
  refine oC (oA rfl (Conv.of rfl) rfl) ?_
  refine oN ?_
  refine aB ?_
  refine awp_loop' (fun n_ s => ∃ (k : Nat), ∃ (hn : n_ + k = a.length), ∃ (hp : decide (a = b) = decide (a.drop k = b.drop k)), s = mkSt 27 [(0, .v a), (1, .v b), (5, .v (k : Int))] []) (a.length) ⟨0, by omega, rfl, rfl⟩ (Le.mk rfl (tle rfl (rfl) rfl (tle rfl (rfl) rfl (tle rfl (rfl) rfl tln))) oln noS) ?_
  rintro n_ s ⟨k, hn, hp, rfl⟩
  refine aS (aS (aR ?_))
  refine oC (oM rfl (Conv.of rfl) rfl) ?_
  refine oC (oM rfl (Conv.of rfl) rfl) ?_
  refine oC (oE sl61 rfl rfl) ?_
  refine oC (oLt rfl rfl rfl) ?_
  refine oN ?_
  refine aC rfl (fun h2 => ?_) (fun h2 => ?_)
  · have hlt : k < a.length := by simpa using h2
    have hx : a[k]? = some a[k] := List.getElem?_eq_getElem hlt
    have hy : b[k]? = some (b[k]'(by omega)) := List.getElem?_eq_getElem (by omega)
    generalize a[k] = x at hx
    generalize b[k]'(by omega) = y at hy
    have hx' : a[(k : Int).toNat]? = some x := hx
    have hy' : b[(k : Int).toNat]? = some y := hy
    have hs := same_drop hx hy
    refine aW ?_
    refine aS (aB ?_)
    refine aS (dS ?_)
    refine dC (oM rfl (Conv.of rfl) rfl) ?_
    refine dC (oM rfl (Conv.of rfl) rfl) ?_
    refine dC (op_ix sl61 rfl rfl rfl (by omega) hx') ?_
    refine dC (oDR ty75 rfl rfl) ?_
    refine dC (oM rfl (Conv.of rfl) rfl) ?_
    refine dC (oM rfl (Conv.of rfl) rfl) ?_
    refine dC (op_ix sl61 rfl rfl rfl (by omega) hy') ?_
    refine dC (oDR ty75 rfl rfl) ?_
    refine dC (oL fb85 (.cons rfl (Conv.of rfl) (.cons rfl (Conv.of rfl) (.nil _))) (eqPay_ct _ _) (aK rfl rfl (aK rfl rfl aK0)) rfl rfl) ?_
    refine dC (op_not rfl rfl) ?_
    refine dr_nil mixed rfl ?_
    refine aC rfl (fun h3 => ?_) (fun h3 => ?_)
    · have h4 : decide (x = y) = false := not_t h3
      refine aS (aR ?_)
      refine oC (oA rfl (Conv.of rfl) rfl) ?_
      refine oN ?_
      refine aT ?_
      repeat first | refine rS ?_ | refine rB ?_
      refine finP (.v rfl (Conv.of rfl)) rfl ?_
      show AV.v _ = AV.v _
      congr 1
      rw [hp, hs, h4]; rfl
    · have h4 : decide (x = y) = true := not_f h3
      refine aW ?_
      refine aR ?_
      refine oC (oM rfl (Conv.of rfl) rfl) ?_
      refine oC (oP rfl rfl rfl (by omega)) ?_
      refine oC (oA rfl (Conv.of rfl) rfl) ?_
      refine oN ?_
      repeat first | refine nS ?_ | refine nB ?_
      exact ⟨n_ - 1, _, by omega, ⟨k + 1, by omega, (by rw [hp, hs, h4]; rfl), rfl⟩, Le.mk rfl (tle rfl (rfl) rfl (tle rfl (rfl) rfl (tle rfl (rfl) rfl tln))) oln noS⟩
  · refine aE ?_
    repeat refine ex_seq ?_
    refine eB ?_
    have hk : a.length ≤ k := by simpa using h2
    refine aS (aR ?_)
    refine oC (oA rfl (Conv.of rfl) rfl) ?_
    refine oN ?_
    refine aT ?_
    repeat first | refine rS ?_ | refine rB ?_
    refine finP (.v rfl (Conv.of rfl)) rfl ?_
    show AV.v _ = AV.v _
    congr 1
    rw [hp, drop_end hk, drop_end (by omega)]; simp
end Go.Proofs.YtmhmeppocbcmeaaGreat

/- A slice of zeros that is made whole. -/
set_option linter.unusedVariables false
set_option linter.unusedSimpArgs false
namespace Go.Wt
open Go
variable {P : Program} {S : Nat → Prop} {ops : Array Oper} {st : St} {d : Nat} {T pos aft} {x y : Operand}
theorem made_at {z : List Value} (h0 : 0 < z.length) {n i j : Nat} (hi : i < n) {v : Value} (hj : z[j]? = some v) : (madeCells z.toArray (n * z.length)).toList[i * z.length + j]? = some v := by
  have hjl := getElem?_lt hj
  have hlt : i * z.length + j < n * z.length := idx_lt hi hjl
  unfold madeCells
  simp only [Array.toList_map, List.getElem?_map, Array.toList_range]
  rw [List.getElem?_range hlt]
  simp only [Option.map_some, List.size_toArray]
  congr 1
  rw [show (i * z.length + j) % z.length = j by rw [Nat.mul_comm, Nat.mul_add_mod, Nat.mod_eq_of_lt hjl]]
  obtain ⟨h1, h2⟩ := List.getElem?_eq_some_iff.1 hj
  simp [h1, h2]
theorem op_mkF {o : Nat} {α : Type} [Enc α] [Plain α] {t E : TypeId} {bytes : Nat} {z0 : α} {n : Int} (sl : SlOk P t E bytes α) (hz : ZeroOk P E z0) (hx : st.ev x = some (.v n)) (hy : st.ev y = some (.v n)) (h0 : 0 ≤ n) (hb : (bytes : Int) * n ≤ 281474976710656) (hn63 : n ≤ 9223372036854775807) (ho : st.ob o = .free) (hn : Nat.blt d st.n = true) :
    OpOk P S ops ⟨some d, .makeSlice t x y, T, pos, aft, none⟩ (opT x ++ opT y) [o] [(d, some (.v (ARef.mk o)))] [(o, .arr (List.replicate n.toNat z0))] st := by
  intro st1 hg G w a hr K Q hK
  unfold stepO
  rw [if_pos (by simp [Region.wanted])]
  refine .inl ?_
  obtain ⟨hu, i, hi, hby, hsz⟩ := sl.spec
  obtain ⟨i', zcs, k1, k2, k3⟩ := hz.ok
  rw [hi] at k1
  injection k1 with k1
  subst k1
  have e1 := RelV.int (hr.at hg hx fun t ht => by simp [ht])
  have e2 := RelV.int (hr.at hg hy fun t ht => by simp [ht])
  have hzl : zcs.length = Enc.size α := Enc.len (k3 G w ω0)
  have hrun : (execOp a.eval ⟨some d, .makeSlice t x y, T, pos, aft, none⟩).run P w = .ok (.value (.slice (some ⟨w.heap.size, 0, none⟩) n.toNat n.toNat)) (w.alloc (.cells (madeCells zcs.toArray (n.toNat * zcs.length)).toList.toArray E)) := by
    have := run_make (P := P) w t E i _ hu hi k2 .i64 .i64 n n (by omega) (Int.le_refl n) (by rw [hby]; exact hb) hn63
    simp only [execOp, e1, e2, Sem.run_bind, this, Result.andThen_ok, Sem.run_pure, Array.toArray_toList, Enc.val_cells (k3 G w ω0), hsz, hzl]
  have hrows : Rows G w (List.replicate n.toNat z0) (madeCells zcs.toArray (n.toNat * zcs.length)).toList := by
    refine ⟨by simp [size_madeCells, hzl], fun i x hx => ?_⟩
    have hi' := getElem?_lt hx
    rw [List.length_replicate] at hi'
    rw [List.getElem?_replicate, if_pos hi'] at hx
    cases hx
    refine ⟨zcs, k3 G w ω0, fun j v hj => ?_⟩
    rw [← hzl]
    exact made_at (by rw [hzl]; exact Enc.size_pos) hi' hj
  unfold Oper.wp
  rw [hrun]
  simp only [Oper.upon]
  obtain ⟨G', h1, h2, h3⟩ := hr.newarr (o := o) (e := E) (xs := List.replicate n.toNat z0) (cs := (madeCells zcs.toArray (n.toNat * zcs.length)).toList) (cap := n.toNat) (by rw [hg.ob o (by simp), ho]) hrows (by simp) (by simp [size_madeCells, hzl])
  refine hK _ _ G' ?_ (h2 S)
  rw [← St.upd_upd]
  exact h1.put (av := some _) (by show d < st1.n; rw [hg.n]; simpa using hn) ⟨_, ⟨_, _, _, rfl, by rw [h3, List.length_replicate]⟩, rfl⟩
theorem fill_at {α : Type} {l : List α} {k : Nat} {z : α} (h : k < l.length) : (l.take k ++ List.replicate (l.length - k) z)[k]? = some z := by
  rw [List.getElem?_append_right (by rw [List.length_take]; omega), List.length_take, Nat.min_eq_left (by omega), Nat.sub_self, List.getElem?_replicate, if_pos (by omega)]
theorem fill_set {α : Type} {l : List α} {k : Nat} {x z : α} (h : l[k]? = some x) : (l.take k ++ List.replicate (l.length - k) z).set k x = l.take (k + 1) ++ List.replicate (l.length - (k + 1)) z := by
  have hk := getElem?_lt h
  rw [List.set_append_right _ _ (by rw [List.length_take]; omega), List.length_take, Nat.min_eq_left (by omega), Nat.sub_self, show l.length - k = (l.length - (k + 1)) + 1 by omega, List.replicate_succ, List.set_cons_zero, take_at h, List.append_assoc]
  rfl
end Go.Wt

/- The exact laws: flat values are made. -/
set_option linter.unusedVariables false
set_option linter.unusedSimpArgs false
namespace Go.Proofs.YtmhmeppocbcmeaaGreat
open Go Go.Wt
theorem toPay_ct (x : Pay) : CtP Tryz.prog 83 [.v x] (.v x) := by
  refine Ct.intro Tryz.func83 rfl rfl ?_
  refine aS (aR ?_)
  refine oC (op_box (o := 0) ty67 rfl (Conv.of rfl) rfl rfl) ?_
  refine oC (oX (o := 1) z75 rfl rfl) ?_
  refine oN ?_
  refine aS (aR ?_)
  refine oC (oX (o := 2) z75 rfl rfl) ?_
  refine oN ?_
  refine aS (aR ?_)
  refine oC (oF f67_0 rfl rfl) ?_
  refine oC (oD ty3 rfl rfl rfl) ?_
  refine oC (oF f75_0 rfl rfl) ?_
  refine oC (op_st ty3 rfl rfl (Conv.of rfl) rfl) ?_
  refine oN ?_
  refine aS (aR ?_)
  refine oC (oF f67_1 rfl rfl) ?_
  refine oC (oD ty3 rfl rfl rfl) ?_
  refine oC (oF f75_1 rfl rfl) ?_
  refine oC (op_st ty3 rfl rfl (Conv.of rfl) rfl) ?_
  refine oN ?_
  refine aS (aR ?_)
  refine oC (oF f67_2 rfl rfl) ?_
  refine oC (oD ty3 rfl rfl rfl) ?_
  refine oC (oF f75_2 rfl rfl) ?_
  refine oC (op_st ty3 rfl rfl (Conv.of rfl) rfl) ?_
  refine oN ?_
  refine aS (aR ?_)
  refine oC (oD ty75 rfl rfl rfl) ?_
  refine oC (op_st ty75 rfl rfl (Conv.of rfl) rfl) ?_
  refine oN ?_
  refine aT ?_
  repeat first | refine rS ?_ | refine rB ?_
  exact finP (.rc ty75 rfl rfl) rfl rfl
theorem toItem_ct (x : Itm) : CtP Tryz.prog 163 [.v x] (.v x) := by
  refine Ct.intro Tryz.func163 rfl rfl ?_
  refine aS (aR ?_)
  refine oC (op_box (o := 0) ty189 rfl (Conv.of rfl) rfl rfl) ?_
  refine oC (oX (o := 1) z143 rfl rfl) ?_
  refine oN ?_
  refine aS (aR ?_)
  refine oC (oX (o := 2) z143 rfl rfl) ?_
  refine oN ?_
  refine aS (aR ?_)
  refine oC (oF f189_0 rfl rfl) ?_
  refine oC (oD ty3 rfl rfl rfl) ?_
  refine oC (oF f143_0 rfl rfl) ?_
  refine oC (op_st ty3 rfl rfl (Conv.of rfl) rfl) ?_
  refine oN ?_
  refine aS (aR ?_)
  refine oC (oF f189_1 rfl rfl) ?_
  refine oC (oD ty67 rfl rfl rfl) ?_
  refine oC (oL fb83 (.cons rfl (Conv.of rfl) (.nil _)) (toPay_ct _) (aK rfl rfl aK0) rfl rfl) ?_
  refine oC (oF f143_1 rfl rfl) ?_
  refine oC (op_st ty75 rfl rfl (Conv.of rfl) rfl) ?_
  refine oN ?_
  refine aS (aR ?_)
  refine oC (oD ty143 rfl rfl rfl) ?_
  refine oC (op_st ty143 rfl rfl (Conv.of rfl) rfl) ?_
  refine oN ?_
  refine aT ?_
  repeat first | refine rS ?_ | refine rB ?_
  exact finP (.rc ty143 rfl rfl) rfl rfl
set_option maxHeartbeats 1000000 in
theorem toItemS_ct (l : List Itm) (hl : l.length ≤ 1048576) : Ct Tryz.prog 139 [.v l] noObj (fun r1 h1 => r1 = .v (NRef.ref 0) ∧ h1 = obs [(0, .arr l)]) := by
  refine Ct.intro Tryz.func139 rfl rfl ?_
  refine aS (aR ?_)
  refine oC (oA rfl (Conv.of rfl) rfl) ?_
  refine oN ?_
  refine aS (aR ?_)
  refine oC (oM rfl (Conv.of rfl) rfl) ?_
  refine oC (oE sl68 rfl rfl) ?_
  refine oC (op_mkF (o := 0) sl27 z143 rfl rfl (by omega) (by omega) (by omega) rfl rfl) ?_
  refine oC (oA rfl (Conv.nr) rfl) ?_
  refine oN ?_
  refine aS (aS (aR ?_))
  refine oC (oA rfl (Conv.of rfl) rfl) ?_
  refine oN ?_
  refine aB ?_
  refine awp_loop' (fun n_ s => ∃ (k : Nat), ∃ (hn : n_ + k = l.length), s = mkSt 23 [(0, .v l), (3, .v (NRef.ref 0)), (4, .v (k : Int))] [(0, .arr (l.take k ++ List.replicate (l.length - k) (Itm.zero)))]) (l.length) ⟨0, by omega, rfl⟩ (Le.mk rfl (tle rfl (rfl) rfl (tlb rfl rfl rfl (tle rfl (rfl) rfl tln))) (olk (by rfl) (by exact bA) oln) noS) ?_
  rintro n_ s ⟨k, hn, rfl⟩
  refine aS (aS (aR ?_))
  refine oC (oM rfl (Conv.of rfl) rfl) ?_
  refine oC (oM rfl (Conv.of rfl) rfl) ?_
  refine oC (oE sl68 rfl rfl) ?_
  refine oC (oLt rfl rfl rfl) ?_
  refine oN ?_
  refine aC rfl (fun h => ?_) (fun h => ?_)
  · have hlt : k < l.length := by simpa using h
    have hx : l[k]? = some l[k] := List.getElem?_eq_getElem hlt
    generalize l[k] = x at hx
    have hx' : l[(k : Int).toNat]? = some x := hx
    have hy : (l.take k ++ List.replicate (l.length - k) (Itm.zero))[(k : Int).toNat]? = some (Itm.zero) := fill_at hlt
    refine aW ?_
    refine aS (aB ?_)
    refine aR ?_
    refine oC (oM rfl (Conv.of rfl) rfl) ?_
    refine oC (oM rfl (Conv.of rfl) rfl) ?_
    refine oC (oM rfl (Conv.of rfl) rfl) ?_
    refine oC (oM rfl (Conv.of rfl) rfl) ?_
    refine oC (op_ix sl68 rfl rfl rfl (by omega) hx') ?_
    refine oC (oDR ty189 rfl rfl) ?_
    refine oC (oL fb163 (.cons rfl (Conv.of rfl) (.nil _)) (toItem_ct _) (aK rfl rfl aK0) rfl rfl) ?_
    refine oC (op_ixA sl27 rfl rfl rfl rfl ⟨by omega, by simp; omega⟩) ?_
    refine oC (op_ste ty143 rfl rfl (Conv.of rfl) rfl hy) ?_
    refine oN ?_
    refine aR ?_
    refine oC (oM rfl (Conv.of rfl) rfl) ?_
    refine oC (oP rfl rfl rfl (by omega)) ?_
    refine oC (oA rfl (Conv.of rfl) rfl) ?_
    refine oN ?_
    repeat first | refine nS ?_ | refine nB ?_
    exact ⟨n_ - 1, _, by omega, ⟨k + 1, by omega, rfl⟩, Le.mk rfl (tle rfl (rfl) rfl (tlb rfl rfl rfl (tle rfl (rfl) rfl tln))) (olk (by (first | (simp; done) | exact congrArg Wt.Obj.arr (fill_set hx))) (by exact bA) oln) noS⟩
  · refine aE ?_
    repeat refine ex_seq ?_
    refine eB ?_
    have hk : l.length ≤ k := by simpa using h
    refine aS (aR ?_)
    refine oC (oM rfl (Conv.of rfl) rfl) ?_
    refine oC (oA rfl (Conv.of rfl) rfl) ?_
    refine oN ?_
    refine aT ?_
    repeat first | refine rS ?_ | refine rB ?_
    have e : l.take k ++ List.replicate (l.length - k) (Itm.zero) = l := by rw [take_end hk, Nat.sub_eq_zero_of_le hk]; simp
    rw [e]
    refine ⟨_, _, res1 (ol := [(0, .arr l)]) (.v rfl (Conv.of rfl)) (fun o ho => ?_) (olk rfl bA oln) noS, rfl, rfl⟩
    have : o = 0 := by simpa using (show o ∈ [0] from ho)
    subst this; rfl
set_option maxHeartbeats 1000000 in
theorem toPayS_ct (l : List Pay) (hl : l.length ≤ 1048576) : Ct Tryz.prog 27 [.v l] noObj (fun r1 h1 => r1 = .v (NRef.ref 0) ∧ h1 = obs [(0, .arr l)]) := by
  refine Ct.intro Tryz.func27 rfl rfl ?_
  refine aS (aR ?_)
  refine oC (oA rfl (Conv.of rfl) rfl) ?_
  refine oN ?_
  refine aS (aR ?_)
  refine oC (oM rfl (Conv.of rfl) rfl) ?_
  refine oC (oE sl56 rfl rfl) ?_
  refine oC (op_mkF (o := 0) sl61 z75 rfl rfl (by omega) (by omega) (by omega) rfl rfl) ?_
  refine oC (oA rfl (Conv.nr) rfl) ?_
  refine oN ?_
  refine aS (aS (aR ?_))
  refine oC (oA rfl (Conv.of rfl) rfl) ?_
  refine oN ?_
  refine aB ?_
  refine awp_loop' (fun n_ s => ∃ (k : Nat), ∃ (hn : n_ + k = l.length), s = mkSt 23 [(0, .v l), (3, .v (NRef.ref 0)), (4, .v (k : Int))] [(0, .arr (l.take k ++ List.replicate (l.length - k) (Pay.zero)))]) (l.length) ⟨0, by omega, rfl⟩ (Le.mk rfl (tle rfl (rfl) rfl (tlb rfl rfl rfl (tle rfl (rfl) rfl tln))) (olk (by rfl) (by exact bA) oln) noS) ?_
  rintro n_ s ⟨k, hn, rfl⟩
  refine aS (aS (aR ?_))
  refine oC (oM rfl (Conv.of rfl) rfl) ?_
  refine oC (oM rfl (Conv.of rfl) rfl) ?_
  refine oC (oE sl56 rfl rfl) ?_
  refine oC (oLt rfl rfl rfl) ?_
  refine oN ?_
  refine aC rfl (fun h => ?_) (fun h => ?_)
  · have hlt : k < l.length := by simpa using h
    have hx : l[k]? = some l[k] := List.getElem?_eq_getElem hlt
    generalize l[k] = x at hx
    have hx' : l[(k : Int).toNat]? = some x := hx
    have hy : (l.take k ++ List.replicate (l.length - k) (Pay.zero))[(k : Int).toNat]? = some (Pay.zero) := fill_at hlt
    refine aW ?_
    refine aS (aB ?_)
    refine aR ?_
    refine oC (oM rfl (Conv.of rfl) rfl) ?_
    refine oC (oM rfl (Conv.of rfl) rfl) ?_
    refine oC (oM rfl (Conv.of rfl) rfl) ?_
    refine oC (oM rfl (Conv.of rfl) rfl) ?_
    refine oC (op_ix sl56 rfl rfl rfl (by omega) hx') ?_
    refine oC (oDR ty67 rfl rfl) ?_
    refine oC (oL fb83 (.cons rfl (Conv.of rfl) (.nil _)) (toPay_ct _) (aK rfl rfl aK0) rfl rfl) ?_
    refine oC (op_ixA sl61 rfl rfl rfl rfl ⟨by omega, by simp; omega⟩) ?_
    refine oC (op_ste ty75 rfl rfl (Conv.of rfl) rfl hy) ?_
    refine oN ?_
    refine aR ?_
    refine oC (oM rfl (Conv.of rfl) rfl) ?_
    refine oC (oP rfl rfl rfl (by omega)) ?_
    refine oC (oA rfl (Conv.of rfl) rfl) ?_
    refine oN ?_
    repeat first | refine nS ?_ | refine nB ?_
    exact ⟨n_ - 1, _, by omega, ⟨k + 1, by omega, rfl⟩, Le.mk rfl (tle rfl (rfl) rfl (tlb rfl rfl rfl (tle rfl (rfl) rfl tln))) (olk (by (first | (simp; done) | exact congrArg Wt.Obj.arr (fill_set hx))) (by exact bA) oln) noS⟩
  · refine aE ?_
    repeat refine ex_seq ?_
    refine eB ?_
    have hk : l.length ≤ k := by simpa using h
    refine aS (aR ?_)
    refine oC (oM rfl (Conv.of rfl) rfl) ?_
    refine oC (oA rfl (Conv.of rfl) rfl) ?_
    refine oN ?_
    refine aT ?_
    repeat first | refine rS ?_ | refine rB ?_
    have e : l.take k ++ List.replicate (l.length - k) (Pay.zero) = l := by rw [take_end hk, Nat.sub_eq_zero_of_le hk]; simp
    rw [e]
    refine ⟨_, _, res1 (ol := [(0, .arr l)]) (.v rfl (Conv.of rfl)) (fun o ho => ?_) (olk rfl bA oln) noS, rfl, rfl⟩
    have : o = 0 := by simpa using (show o ∈ [0] from ho)
    subst this; rfl
end Go.Proofs.YtmhmeppocbcmeaaGreat

/- Values whose memory is their place's own at every depth. -/
set_option linter.unusedVariables false
set_option linter.unusedSimpArgs false
namespace Go.Wt
open Go
/-- What names nothing. -/
class NoRef (α : Type) [Enc α] : Prop where
  refs_eq : ∀ x : α, Enc.refs x = []
instance {α : Type} [Enc α] [Plain α] : NoRef α := ⟨Plain.refs_eq⟩
instance {α β : Type} [Enc α] [Enc β] [NoRef α] [NoRef β] : NoRef (α × β) := ⟨fun x => by
  show Enc.refs x.1 ++ Enc.refs x.2 = []
  rw [NoRef.refs_eq, NoRef.refs_eq]; rfl⟩
theorem noref_iso {σ τ : Type} [Enc τ] [NoRef τ] (f : σ → τ) (g : τ → σ) (fg : ∀ y, f (g y) = y) (ag hag) : @NoRef σ (isoEnc f g fg ag hag) :=
  @NoRef.mk σ (isoEnc f g fg ag hag) fun x => NoRef.refs_eq (f x)
/-- A slice whose elements are its place's own, if `own`; else nothing but its header is known. -/
structure DList (α : Type) where
  l : List α
  own : Bool
def DElems {α : Type} [Enc α] (G : Gh) (w : Go.World) (ω : Owner) (a : Option Addr) (xs : List α) : Prop :=
  xs = [] ∨ ∃ b off, a = some ⟨b, off, none⟩ ∧ xs.length ≤ big ∧ ∀ i x, xs[i]? = some x → ∃ c, Enc.rd G w (Owner.sub ω [0, i]) x c ∧
    ∀ j v, c[j]? = some v → G.own b (off + i * Enc.size α + j) = some (Owner.sub ω [1]) ∧ cl w b (off + i * Enc.size α + j) = some v ∧ fz w b (off + i * Enc.size α + j) = false
theorem DElems.mono {α : Type} [Enc α] [NoRef α] {G w ω G' w' ω' a} {xs : List α} (hs : Sh G w G' w') (ho : Ow G w ω G' w' ω' never) (h : DElems G w ω a xs) : DElems G' w' ω' a xs := by
  rcases h with h | ⟨b, off, ha, hB, h⟩
  · exact .inl h
  · refine .inr ⟨b, off, ha, hB, fun i x hx => ?_⟩
    obtain ⟨c, hc, hm⟩ := h i x hx
    refine ⟨c, Enc.mono hs (ho.sub [0, i] fun _ h => h) (fun o ho => by rw [NoRef.refs_eq] at ho; cases ho) hc, fun j v hj => ?_⟩
    obtain ⟨k1, k2, k3⟩ := hm j v hj
    obtain ⟨r1, r2, r3⟩ := ho b _ [1] v id k1 k2
    exact ⟨r1, r2, r3 k3⟩
instance {α : Type} [Enc α] [NoRef α] : Enc (DList α) where
  size := 1
  agg := false
  size_pos := by decide
  agg_size := fun _ => rfl
  rd := fun G w ω xs cs => ∃ a cap, cs = [.slice a xs.l.length cap] ∧ xs.l.length ≤ cap ∧ (xs.own = true → DElems G w ω a xs.l)
  refs := fun _ => []
  dis := fun x => ⟨x.l, false⟩
  len := fun ⟨_, _, h, _⟩ => by rw [h]; rfl
  one := fun ⟨_, _, h, _⟩ c hc => by rw [h] at hc; simp at hc; rw [hc]; rfl
  mono := fun hs ho _ ⟨a, cap, h1, h2, h3⟩ => ⟨a, cap, h1, h2, fun h => (h3 h).mono hs ho⟩
  mono_dis := fun hs _ ⟨a, cap, h1, h2, h3⟩ => ⟨a, cap, h1, h2, fun h => by cases h⟩
instance {α : Type} [Enc α] [NoRef α] : NoRef (DList α) := ⟨fun _ => rfl⟩
structure VotD where
  by_ : Int
  chain : DList Itm
instance : Enc VotD := isoEnc (fun p => (p.by_, p.chain)) (fun q => ⟨q.1, q.2⟩) (fun _ => rfl) true (fun h => by cases h)
instance : NoRef VotD := noref_iso _ _ _ _ _
structure NodD where
  id : Int
  epoch : Int
  voted : Int
  seen : DList VotD
instance : Enc NodD := isoEnc (fun p => (p.id, p.epoch, p.voted, p.seen)) (fun q => ⟨q.1, q.2.1, q.2.2.1, q.2.2.2⟩) (fun _ => rfl) true (fun h => by cases h)
instance : NoRef NodD := noref_iso _ _ _ _ _
structure EvtD where
  kind : Int
  a : Int
  b : Int
  pay : Pay
  vote : VotD
instance : Enc EvtD := isoEnc (fun p => (p.kind, p.a, p.b, p.pay, p.vote)) (fun q => ⟨q.1, q.2.1, q.2.2.1, q.2.2.2.1, q.2.2.2.2⟩) (fun _ => rfl) true (fun h => by cases h)
instance : NoRef EvtD := noref_iso _ _ _ _ _
structure WrldD where
  epoch : Int
  nodes : DList NodD
  log : DList VotD
  bad : Int
instance : Enc WrldD := isoEnc (fun p => (p.epoch, p.nodes, p.log, p.bad)) (fun q => ⟨q.1, q.2.1, q.2.2.1, q.2.2.2⟩) (fun _ => rfl) true (fun h => by cases h)
instance : NoRef WrldD := noref_iso _ _ _ _ _
/-- A world whose nodes are an object, and whose log is its own. -/
structure WrldE where
  epoch : Int
  nodes : NRef
  log : DList VotD
  bad : Int
instance : Enc WrldE := isoEnc (fun p => (p.epoch, p.nodes, p.log, p.bad)) (fun q => ⟨q.1, q.2.1, q.2.2.1, q.2.2.2⟩) (fun _ => rfl) true (fun h => by cases h)
def VotD.zero : VotD := ⟨0, ⟨[], true⟩⟩
def NodD.zero : NodD := ⟨0, 0, 0, ⟨[], true⟩⟩
def EvtD.zero : EvtD := ⟨0, 0, 0, .zero, .zero⟩
def WrldD.zero : WrldD := ⟨0, ⟨[], true⟩, ⟨[], true⟩, 0⟩
def WrldE.zero : WrldE := ⟨0, .nil, ⟨[], true⟩, 0⟩
instance {α : Type} [Enc α] [NoRef α] : ZCells (DList α) ⟨[], true⟩ := ⟨[.slice none 0 0], fun _ _ _ => ⟨none, 0, rfl, Nat.le_refl _, fun _ => .inl rfl⟩⟩
instance : ZCells VotD .zero := ⟨ZCells.cs (Int × DList Itm), fun G w ω => ZCells.rd (α := Int × DList Itm) G w ω⟩
instance : ZCells NodD .zero := ⟨ZCells.cs (Int × Int × Int × DList VotD), fun G w ω => ZCells.rd (α := Int × Int × Int × DList VotD) G w ω⟩
instance : ZCells EvtD .zero := ⟨ZCells.cs (Int × Int × Int × Pay × VotD), fun G w ω => ZCells.rd (α := Int × Int × Int × Pay × VotD) G w ω⟩
instance : ZCells WrldD .zero := ⟨ZCells.cs (Int × DList NodD × DList VotD × Int), fun G w ω => ZCells.rd (α := Int × DList NodD × DList VotD × Int) G w ω⟩
instance : ZCells WrldE .zero := ⟨ZCells.cs (Int × NRef × DList VotD × Int), fun G w ω => ZCells.rd (α := Int × NRef × DList VotD × Int) G w ω⟩
theorem VotD.l0 : IsLens VotD.by_ (fun x y => { x with by_ := y }) 0 [0] := (IsLens.fst Int (DList Itm)).iso (fun _ => rfl) (fun _ _ => rfl)
theorem VotD.l1 : IsLens VotD.chain (fun x y => { x with chain := y }) 1 [1] := (IsLens.snd Int (DList Itm)).iso (fun _ => rfl) (fun _ _ => rfl)
theorem NodD.l0 : IsLens NodD.id (fun x y => { x with id := y }) 0 [0] := (IsLens.fst Int (Int × Int × DList VotD)).iso (fun _ => rfl) (fun _ _ => rfl)
theorem NodD.l1 : IsLens NodD.epoch (fun x y => { x with epoch := y }) 1 [1, 0] := ((IsLens.snd Int (Int × Int × DList VotD)).comp (IsLens.fst _ _)).iso (fun _ => rfl) (fun _ _ => rfl)
theorem NodD.l2 : IsLens NodD.voted (fun x y => { x with voted := y }) 2 [1, 1, 0] := ((IsLens.snd Int (Int × Int × DList VotD)).comp ((IsLens.snd _ _).comp (IsLens.fst _ _))).iso (fun _ => rfl) (fun _ _ => rfl)
theorem NodD.l3 : IsLens NodD.seen (fun x y => { x with seen := y }) 3 [1, 1, 1] := ((IsLens.snd Int (Int × Int × DList VotD)).comp ((IsLens.snd _ _).comp (IsLens.snd _ _))).iso (fun _ => rfl) (fun _ _ => rfl)
theorem WrldD.l0 : IsLens WrldD.epoch (fun x y => { x with epoch := y }) 0 [0] := (IsLens.fst Int (DList NodD × DList VotD × Int)).iso (fun _ => rfl) (fun _ _ => rfl)
theorem WrldD.l1 : IsLens WrldD.nodes (fun x y => { x with nodes := y }) 1 [1, 0] := ((IsLens.snd Int (DList NodD × DList VotD × Int)).comp (IsLens.fst _ _)).iso (fun _ => rfl) (fun _ _ => rfl)
theorem WrldD.l2 : IsLens WrldD.log (fun x y => { x with log := y }) 2 [1, 1, 0] := ((IsLens.snd Int (DList NodD × DList VotD × Int)).comp ((IsLens.snd _ _).comp (IsLens.fst _ _))).iso (fun _ => rfl) (fun _ _ => rfl)
theorem WrldD.l3 : IsLens WrldD.bad (fun x y => { x with bad := y }) 3 [1, 1, 1] := ((IsLens.snd Int (DList NodD × DList VotD × Int)).comp ((IsLens.snd _ _).comp (IsLens.snd _ _))).iso (fun _ => rfl) (fun _ _ => rfl)
theorem WrldE.l0 : IsLens WrldE.epoch (fun x y => { x with epoch := y }) 0 [0] := (IsLens.fst Int (NRef × DList VotD × Int)).iso (fun _ => rfl) (fun _ _ => rfl)
theorem WrldE.l1 : IsLens WrldE.nodes (fun x y => { x with nodes := y }) 1 [1, 0] := ((IsLens.snd Int (NRef × DList VotD × Int)).comp (IsLens.fst _ _)).iso (fun _ => rfl) (fun _ _ => rfl)
theorem WrldE.l2 : IsLens WrldE.log (fun x y => { x with log := y }) 2 [1, 1, 0] := ((IsLens.snd Int (NRef × DList VotD × Int)).comp ((IsLens.snd _ _).comp (IsLens.fst _ _))).iso (fun _ => rfl) (fun _ _ => rfl)
theorem WrldE.l3 : IsLens WrldE.bad (fun x y => { x with bad := y }) 3 [1, 1, 1] := ((IsLens.snd Int (NRef × DList VotD × Int)).comp ((IsLens.snd _ _).comp (IsLens.snd _ _))).iso (fun _ => rfl) (fun _ _ => rfl)
theorem EvtD.l0 : IsLens EvtD.kind (fun x y => { x with kind := y }) 0 [0] := (IsLens.fst Int (Int × Int × Pay × VotD)).iso (fun _ => rfl) (fun _ _ => rfl)
theorem EvtD.l1 : IsLens EvtD.a (fun x y => { x with a := y }) 1 [1, 0] := ((IsLens.snd Int (Int × Int × Pay × VotD)).comp (IsLens.fst _ _)).iso (fun _ => rfl) (fun _ _ => rfl)
theorem EvtD.l2 : IsLens EvtD.b (fun x y => { x with b := y }) 2 [1, 1, 0] := ((IsLens.snd Int (Int × Int × Pay × VotD)).comp ((IsLens.snd _ _).comp (IsLens.fst _ _))).iso (fun _ => rfl) (fun _ _ => rfl)
theorem EvtD.l3 : IsLens EvtD.pay (fun x y => { x with pay := y }) 3 [1, 1, 1, 0] := ((IsLens.snd Int (Int × Int × Pay × VotD)).comp ((IsLens.snd _ _).comp ((IsLens.snd _ _).comp (IsLens.fst _ _)))).iso (fun _ => rfl) (fun _ _ => rfl)
theorem EvtD.l4 : IsLens EvtD.vote (fun x y => { x with vote := y }) 6 [1, 1, 1, 1] := ((IsLens.snd Int (Int × Int × Pay × VotD)).comp ((IsLens.snd _ _).comp ((IsLens.snd _ _).comp (IsLens.snd _ _)))).iso (fun _ => rfl) (fun _ _ => rfl)
def Vote.d (v : Vote) : VotD := ⟨v.by_, ⟨v.chain, true⟩⟩
def Nod.d (n : Nod) : NodD := ⟨n.id, n.epoch, n.voted, ⟨n.seen.map Vote.d, true⟩⟩
def Evt.d (e : Evt) : EvtD := ⟨e.kind, e.a, e.b, e.pay, e.vote.d⟩
def Wrld.d (w : Wrld) : WrldD := ⟨w.epoch, ⟨w.nodes.map Nod.d, true⟩, ⟨w.log.map Vote.d, true⟩, w.bad⟩

/-! ### What is said of deep values, as addresses -/
/-- The addresses are the place's own. -/
def Mine (G : Gh) (w : Go.World) (ω : Owner) (L : List Adr) : Prop := L.Nodup ∧ ∀ a ∈ L, (∃ π, G.own a.1 a.2 = some (ω.1, ω.2 ++ π)) ∧ (∃ v, cl w a.1 a.2 = some v) ∧ fz w a.1 a.2 = false
def Deep {α β : Type} [Enc β] (E : EPred α) (d : α → β) : Prop := ∀ {G : Gh} {w : Go.World} {ω : Owner} {x : α} {c : List Value}, Enc.rd G w ω (d x) c → ∃ L, E w c x L ∧ Mine G w ω L
theorem Mine.sub {G : Gh} {w : Go.World} {ω : Owner} {p : List Nat} {L : List Adr} (h : Mine G w (Owner.sub ω p) L) : Mine G w ω L :=
  ⟨h.1, fun a ha => by
    obtain ⟨⟨π, h1⟩, h2⟩ := h.2 a ha
    exact ⟨⟨p ++ π, by rw [h1]; simp [Owner.sub, List.append_assoc]⟩, h2⟩⟩
theorem Mine.nil {G : Gh} {w : Go.World} {ω : Owner} : Mine G w ω [] := ⟨List.nodup_nil, fun a ha => by cases ha⟩
/-- Two places that are apart own other addresses. -/
theorem Mine.app {G : Gh} {w : Go.World} {ω : Owner} {p q : List Nat} {L M : List Adr} (h : Mine G w (Owner.sub ω p) L) (k : Mine G w (Owner.sub ω q) M) (hpq : ∀ π ρ, p ++ π ≠ q ++ ρ) : Mine G w ω (L ++ M) := by
  refine ⟨List.nodup_append.2 ⟨h.1, k.1, fun a ha b hb e => ?_⟩, fun a ha => ?_⟩
  · subst e
    obtain ⟨⟨π, h1⟩, _⟩ := h.2 a ha
    obtain ⟨⟨ρ, k1⟩, _⟩ := k.2 a hb
    rw [h1] at k1
    simp only [Owner.sub, List.append_assoc, Option.some.injEq, Prod.mk.injEq, List.append_cancel_left_eq, true_and] at k1
    exact hpq _ _ k1
  · rcases List.mem_append.1 ha with ha | ha
    · exact h.sub.2 a ha
    · exact k.sub.2 a ha
theorem deep_list {α β : Type} [Enc β] [NoRef β] {E : EPred α} {d : α → β} {sz : Nat} (hd : Deep E d) (hsz : Enc.size β = sz) {G : Gh} {w : Go.World} {ω : Owner} {l : List α} {u : Value} (h : Enc.rd G w ω (DList.mk (l.map d) true) [u]) : ∃ L, DL E sz w u l L ∧ Mine G w ω L := by
  obtain ⟨a, cap, h1, h2, h3⟩ := h
  injection h1 with h1
  have h2' : l.length ≤ cap := by simpa using h2
  rcases h3 rfl with h4 | ⟨b, off, ha, hB, h4⟩
  · have hl : l = [] := by simpa using h4
    subst hl
    exact ⟨[], ⟨a, cap, by simpa using h1, h2', by simp, .inl ⟨rfl, rfl⟩⟩, Mine.nil⟩
  have hB' : l.length ≤ big := by simpa using hB
  have hsp := Enc.size_pos (α := β)
  rw [hsz] at hsp
  have key : ∀ i, ∃ Li, ∀ x, l[i]? = some x → ∃ c, E w c x Li ∧ c.length = sz ∧ Mine G w (Owner.sub ω [0, i]) Li ∧ ∀ j v, c[j]? = some v → G.own b (off + i * sz + j) = some (Owner.sub ω [1]) ∧ cl w b (off + i * sz + j) = some v ∧ fz w b (off + i * sz + j) = false := by
    intro i
    by_cases hi : i < l.length
    · have hx : l[i]? = some l[i] := List.getElem?_eq_getElem hi
      obtain ⟨c, c1, c2⟩ := h4 i (d l[i]) (by rw [List.getElem?_map, hx]; rfl)
      obtain ⟨Li, e1, e2⟩ := hd c1
      refine ⟨Li, fun x hx' => ?_⟩
      rw [hx] at hx'
      injection hx' with hx'
      subst hx'
      rw [hsz] at c2
      exact ⟨c, e1, by rw [← hsz]; exact Enc.len c1, e2, c2⟩
    · exact ⟨[], fun x hx => absurd (getElem?_lt hx) hi⟩
  obtain ⟨f, hf⟩ := Classical.axiomOfChoice key
  have hLs : ∀ i, i < l.length → ((List.range l.length).map f)[i]? = some (f i) := fun i hi => by
    rw [List.getElem?_map, List.getElem?_range hi]; rfl
  have hcell : ∀ p, p ∈ cellsOf b off (l.length * sz) → ∃ v, G.own p.1 p.2 = some (Owner.sub ω [1]) ∧ cl w p.1 p.2 = some v ∧ fz w p.1 p.2 = false := by
    rintro ⟨p1, p2⟩ hp
    obtain ⟨m1, m2, m3⟩ := mem_cells.1 hp
    simp only at m1 m2 m3
    subst m1
    have hq : (p2 - off) / sz < l.length := (Nat.div_lt_iff_lt_mul hsp).2 (by omega)
    obtain ⟨c, c1, c2, c3, c4⟩ := hf ((p2 - off) / sz) _ (List.getElem?_eq_getElem hq)
    have hr : (p2 - off) % sz < c.length := by rw [c2]; exact Nat.mod_lt _ hsp
    obtain ⟨k1, k2, k3⟩ := c4 ((p2 - off) % sz) _ (List.getElem?_eq_getElem hr)
    have e : off + (p2 - off) / sz * sz + (p2 - off) % sz = p2 := by
      have := Nat.div_add_mod' (p2 - off) sz
      omega
    rw [e] at k1 k2 k3
    exact ⟨_, k1, k2, k3⟩
  have hel : ∀ p, p ∈ ((List.range l.length).map f).flatten → ∃ i, i < l.length ∧ p ∈ f i := by
    intro p hp
    obtain ⟨Li, h5, h6⟩ := List.mem_flatten.1 hp
    obtain ⟨i, h7, rfl⟩ := List.mem_map.1 h5
    exact ⟨i, by simpa using h7, h6⟩
  have hmine : ∀ i, i < l.length → Mine G w (Owner.sub ω [0, i]) (f i) := fun i hi => by
    obtain ⟨c, _, _, c3, _⟩ := hf i _ (List.getElem?_eq_getElem hi)
    exact c3
  refine ⟨cellsOf b off (l.length * sz) ++ ((List.range l.length).map f).flatten, ⟨a, cap, by simpa using h1, h2', hB', .inr ⟨b, off, (List.range l.length).map f, ha, by simp, rfl, fun i x Li hx hL => ?_⟩⟩, ?_, fun p hp => ?_⟩
  · have hi := getElem?_lt hx
    rw [hLs i hi] at hL
    injection hL with hL
    subst hL
    obtain ⟨c, c1, c2, c3, c4⟩ := hf i x hx
    exact ⟨c, c1, c2, fun j v hj => (c4 j v hj).2.1⟩
  · refine List.nodup_append.2 ⟨cells_nodup _ _ _, ?_, fun p h5 q h6 e => ?_⟩
    · unfold List.Nodup
      rw [List.pairwise_flatten]
      refine ⟨fun Li hL => ?_, ?_⟩
      · obtain ⟨i, h7, rfl⟩ := List.mem_map.1 hL
        exact (hmine i (by simpa using h7)).1
      · rw [List.pairwise_map, List.pairwise_iff_getElem]
        intro i j hi hj hij p hp q hq e
        simp only [List.getElem_range, List.length_range] at hi hj hp hq
        subst e
        obtain ⟨⟨π, k1⟩, _⟩ := (hmine i hi).2 p hp
        obtain ⟨⟨ρ, k2⟩, _⟩ := (hmine j hj).2 p hq
        rw [k1] at k2
        simp [Owner.sub] at k2
        omega
    · subst e
      obtain ⟨v, k1, _⟩ := hcell p h5
      obtain ⟨i, hi, hp⟩ := hel p h6
      obtain ⟨⟨π, k2⟩, _⟩ := (hmine i hi).2 p hp
      rw [k1] at k2
      simp [Owner.sub] at k2
  · rcases List.mem_append.1 hp with hp | hp
    · obtain ⟨v, k1, k2, k3⟩ := hcell p hp
      exact ⟨⟨[1], k1⟩, ⟨v, k2⟩, k3⟩
    · obtain ⟨i, hi, hp⟩ := hel p hp
      exact (hmine i hi).sub.2 p hp
theorem eI_of {G : Gh} {w : Go.World} {ω : Owner} {x : Itm} {cs : List Value} (h : Enc.rd G w ω x cs) : EI w cs x [] := ⟨itm_cells h, rfl⟩
theorem eP_of {G : Gh} {w : Go.World} {ω : Owner} {x : Pay} {cs : List Value} (h : Enc.rd G w ω x cs) : EP w cs x [] := ⟨pay_cells h, rfl⟩
theorem deepI : Deep EI (fun x : Itm => x) := fun h => ⟨[], eI_of h, Mine.nil⟩
theorem deepP : Deep EP (fun x : Pay => x) := fun h => ⟨[], eP_of h, Mine.nil⟩
theorem cs1 {α : Type} [Enc α] {G : Gh} {w : Go.World} {ω : Owner} {x : α} {cs : List Value} (h : Enc.rd G w ω x cs) (hs : Enc.size α = 1) : ∃ u, cs = [u] := by
  have := Enc.len h
  rw [hs] at this
  match cs, this with
  | [u], _ => exact ⟨u, rfl⟩
theorem deepV : Deep EV Vote.d := by
  rintro G w ω x c ⟨c1, c2, rfl, h1, h2⟩
  obtain ⟨u, rfl⟩ := cs1 (show Enc.rd G w _ (DList.mk x.chain true) c2 from h2) rfl
  obtain ⟨L, l1, l2⟩ := deep_list (l := x.chain) deepI rfl (by rw [List.map_id']; exact h2)
  exact ⟨L, ⟨u, by rw [show c1 = [_] from h1]; rfl, l1⟩, l2.sub⟩
theorem deepN : Deep EN Nod.d := by
  rintro G w ω x c ⟨c1, c2, rfl, h1, ⟨c3, c4, rfl, h3, ⟨c5, c6, rfl, h5, h6⟩⟩⟩
  obtain ⟨u, rfl⟩ := cs1 (show Enc.rd G w _ (DList.mk (x.seen.map Vote.d) true) c6 from h6) rfl
  obtain ⟨L, l1, l2⟩ := deep_list (l := x.seen) deepV rfl h6
  exact ⟨L, ⟨u, by rw [show c1 = [_] from h1, show c3 = [_] from h3, show c5 = [_] from h5]; rfl, l1⟩, l2.sub.sub.sub⟩
theorem deepE : Deep EE Evt.d := by
  rintro G w ω x c ⟨c1, c2, rfl, h1, ⟨c3, c4, rfl, h3, ⟨c5, c6, rfl, h5, ⟨c7, c8, rfl, h7, ⟨c9, c0, rfl, h9, h0⟩⟩⟩⟩⟩
  obtain ⟨u, rfl⟩ := cs1 (show Enc.rd G w _ (DList.mk x.vote.chain true) c0 from h0) rfl
  obtain ⟨L, l1, l2⟩ := deep_list (l := x.vote.chain) deepI rfl (by rw [List.map_id']; exact h0)
  exact ⟨L, ⟨u, by rw [show c1 = [_] from h1, show c3 = [_] from h3, show c5 = [_] from h5, pay_cells (show Enc.rd G w _ x.pay c7 from h7), show c9 = [_] from h9]; rfl, l1⟩, l2.sub.sub.sub.sub.sub⟩
/-- A world, and all behind it. -/
def EWd : EPred Wrld := fun w c x L => ∃ h1 h2 L1 L2, c = [.int .i64 x.epoch, h1, h2, .int .i64 x.bad] ∧ DW w h1 h2 x L1 L2 ∧ L = L1 ++ L2
theorem deepW : Deep EWd Wrld.d := by
  rintro G w ω x c ⟨c1, c2, rfl, h1, ⟨c3, c4, rfl, h3, ⟨c5, c6, rfl, h5, h6⟩⟩⟩
  obtain ⟨u, rfl⟩ := cs1 (show Enc.rd G w _ (DList.mk (x.nodes.map Nod.d) true) c3 from h3) rfl
  obtain ⟨v, rfl⟩ := cs1 (show Enc.rd G w _ (DList.mk (x.log.map Vote.d) true) c5 from h5) rfl
  obtain ⟨L, l1, l2⟩ := deep_list (l := x.nodes) deepN rfl h3
  obtain ⟨M, m1, m2⟩ := deep_list (l := x.log) deepV rfl h5
  refine ⟨L ++ M, ⟨u, v, L, M, by rw [show c1 = [_] from h1, show c6 = [_] from h6]; rfl, ⟨l1, m1⟩, rfl⟩, ?_⟩
  have := Mine.app (p := [0]) (q := [1, 0]) l2 (show Mine G w (Owner.sub (Owner.sub ω [1]) [1, 0]) M from by
    have : Owner.sub (Owner.sub ω [1]) [1, 0] = Owner.sub (Owner.sub (Owner.sub ω [1]) [1]) [0] := by simp [Owner.sub, List.append_assoc]
    rw [this]; exact m2) (fun π ρ h => by simp at h)
  exact this.sub
/-- Rows of such. -/
def ES {α : Type} (E : EPred α) (sz : Nat) : EPred (List α) := fun w c xs L => ∃ u, c = [u] ∧ DL E sz w u xs L
theorem deepS {α β : Type} [Enc β] [NoRef β] {E : EPred α} {d : α → β} {sz : Nat} (hd : Deep E d) (hsz : Enc.size β = sz) : Deep (ES E sz) (fun l : List α => DList.mk (l.map d) true) := fun {G w ω l c} h => by
  obtain ⟨u, rfl⟩ := cs1 h rfl
  obtain ⟨L, l1, l2⟩ := deep_list hd hsz h
  exact ⟨L, ⟨u, rfl, l1⟩, l2⟩

/-! ### Contracts, said raw -/
theorem Mine.fresh {S : Nat → Prop} {w w' : Go.World} {G' : Gh} {ω : Owner} {L : List Adr} (k : Keep S Gn w G' w') (h : Mine G' w' ω L) : Fresh w w' L :=
  ⟨h.1, fun a ha => (h.2 a ha).2.2, fun a ha => by
    obtain ⟨⟨π, h1⟩, ⟨v, h2⟩, _⟩ := h.2 a ha
    exact keep_new k h2 (by rw [h1]; exact fun h => by cases h)⟩
/-! ### A row becomes a result's own -/
theorem own_ret {α : Type} [Enc α] [NoRef α] {G : Gh} {w : Go.World} {o : Nat} {xs : List α} (ρ : List Nat) (hB : xs.length ≤ big) (h : RelO G w o (.arr xs)) :
    ∃ G' a n cap, G.hdr o = some (.slice a n cap) ∧ Enc.rd G' w (.ret, ρ) (DList.mk xs true) [.slice a n cap] ∧ (∀ k, G'.hdr k = none) ∧ (∀ S, (∀ k, ¬ S k) → Keep S G w G' w) ∧ Sh G w G' w ∧
      ∀ σ, (∀ π, ¬ ρ ++ [0] <+: σ ++ π ∧ ¬ ρ ++ [1] <+: σ ++ π) → Ow G w (.ret, σ) G' w (.ret, σ) never := by
  obtain ⟨b, cap, cs, te, m1, m2, m3, m4, m5, m6⟩ := h
  have hsh : Sh G w (((G.mv (.obj o, []) (.ret, ρ ++ [0])).mv (.blk o, []) (.ret, ρ ++ [1])).fg fun _ => false) w := (Sh.mv.trans Sh.mv).trans (Sh.fg _)
  refine ⟨((G.mv (.obj o, []) (.ret, ρ ++ [0])).mv (.blk o, []) (.ret, ρ ++ [1])).fg (fun _ => false), some ⟨b, 0, none⟩, xs.length, cap, m1, ⟨_, _, rfl, m3, fun _ => .inr ⟨b, 0, rfl, hB, fun i x hx => ?_⟩⟩, fun k => rfl,
    fun S hS => ((Keep.mv S (by simp) (by simp)).trans (Keep.mv S (by simp) (by simp))).trans (Keep.fg fun o ho => absurd ho (hS o)), hsh, fun σ hσ => ?_⟩
  · obtain ⟨c, c1, c2⟩ := m5 i x hx
    have how : Ow G w (.obj o, [i]) (((G.mv (.obj o, []) (.ret, ρ ++ [0])).mv (.blk o, []) (.ret, ρ ++ [1])).fg fun _ => false) w (Owner.sub (.ret, ρ) [0, i]) never := by
      have a1 := (Ow.mv_src (G := G) (w := w) (s := (.obj o, [])) (d := (.ret, ρ ++ [0]))).sub [i] (no' := never) fun _ h => h
      have a2 : Ow (G.mv (.obj o, []) (.ret, ρ ++ [0])) w (.ret, ρ ++ [0] ++ [i]) ((G.mv (.obj o, []) (.ret, ρ ++ [0])).mv (.blk o, []) (.ret, ρ ++ [1])) w (.ret, ρ ++ [0] ++ [i]) never :=
        Ow.mv_gen fun π _ => ⟨by simp, fun h => by
          have := h.2
          simp [List.append_assoc, List.prefix_append_right_inj] at this⟩
      have a3 := Ow.fg (G := (G.mv (.obj o, []) (.ret, ρ ++ [0])).mv (.blk o, []) (.ret, ρ ++ [1])) (w := w) (fun _ => false) (.ret, ρ ++ [0] ++ [i]) never
      have e : Owner.sub (.ret, ρ) [0, i] = (.ret, ρ ++ [0] ++ [i]) := by simp [Owner.sub, List.append_assoc]
      rw [e]
      exact Ow.comp (Ow.comp (by simpa [Owner.sub] using a1) a2) a3
    refine ⟨c, Enc.mono hsh how (fun o ho => by rw [NoRef.refs_eq] at ho; cases ho) c1, fun j v hj => ?_⟩
    have hj2 := c2 j v hj
    have hlt := getElem?_lt hj2
    refine ⟨?_, by rw [cl_row m2, Nat.zero_add]; exact hj2, by simp [World.frozen?, m2]⟩
    rw [Nat.zero_add]
    simp [Gh.fg, Gh.mv, m6 _ hlt, relab, Owner.sub]
  · have a1 : Ow G w (.ret, σ) (G.mv (.obj o, []) (.ret, ρ ++ [0])) w (.ret, σ) never := Ow.mv_gen fun π _ => ⟨by simp, fun h => (hσ π).1 h.2⟩
    have a2 : Ow (G.mv (.obj o, []) (.ret, ρ ++ [0])) w (.ret, σ) ((G.mv (.obj o, []) (.ret, ρ ++ [0])).mv (.blk o, []) (.ret, ρ ++ [1])) w (.ret, σ) never := Ow.mv_gen fun π _ => ⟨by simp, fun h => (hσ π).2 h.2⟩
    exact Ow.comp (Ow.comp a1 a2) (Ow.fg _ _ _)
theorem ct_own {P : Program} {f : FuncId} {args : List AV} {α : Type} [Enc α] [NoRef α] {o : Nat} {xs : List α} (hB : xs.length ≤ big) (k : Ct P f args noObj fun r1 h1 => r1 = .v (NRef.ref o) ∧ h1 = obs [(o, .arr xs)]) : CtP P f args (.v (DList.mk xs true)) :=
  Wt.Ct.frz k fun G w u ⟨cs, ⟨a, n, c, g1, g2⟩, g3⟩ ho => by
    have ho' : RelO G w o (.arr xs) := by have := ho o; simpa [obs, lk0, orr] using this
    obtain ⟨G', a', n', c', h1, h2, h3, h4, _⟩ := own_ret [] hB ho'
    have g2' : G.hdr o = some (.slice a n c) := g2
    rw [h1] at g2'
    injection g2' with g2'
    exact ⟨G', ⟨cs, by rw [g1, ← g2']; exact h2, g3⟩, fun k => h3 k, h4⟩
theorem wrl_own {G : Gh} {w : Go.World} {ρ : List Nat} {e : Int} {o : Nat} {ns : List NodD} {l : DList VotD} {b : Int} {cs : List Value} (h : Enc.rd G w (.ret, ρ) (WrldE.mk e (.ref o) l b) cs) (ho : RelO G w o (.arr ns)) (hB : ns.length ≤ big) :
    ∃ G', Enc.rd G' w (.ret, ρ) (WrldD.mk e ⟨ns, true⟩ l b) cs ∧ (∀ k, G'.hdr k = none) ∧ ∀ S, (∀ k, ¬ S k) → Keep S G w G' w := by
  obtain ⟨c1, c2, rfl, r1, ⟨c3, c4, rfl, r3, ⟨c5, c6, rfl, r5, r6⟩⟩⟩ := h
  obtain ⟨a, m, c, q1, q2⟩ := r3
  obtain ⟨G', a', n', c', h1, h2, h3, h4, h5, h6⟩ := own_ret (ρ ++ [1] ++ [0]) hB ho
  have q2' : G.hdr o = some (.slice a m c) := q2
  rw [h1] at q2'
  injection q2' with q2'
  refine ⟨G', ⟨c1, _, rfl, r1, c3, _, rfl, by rw [q1, ← q2']; exact h2, c5, c6, rfl, ?_, r6⟩, h3, h4⟩
  refine Enc.mono h5 (h6 (ρ ++ [1] ++ [1] ++ [0]) fun π => ?_) (fun o ho => by cases ho) r5
  simp [List.append_assoc, List.prefix_append_right_inj]
theorem ct_ownW {P : Program} {f : FuncId} {args : List AV} {o : Nat} {e : Int} {ns : List NodD} {l : DList VotD} {b : Int} (hB : ns.length ≤ big) (k : Ct P f args noObj fun r1 h1 => r1 = .v (WrldE.mk e (.ref o) l b) ∧ h1 = obs [(o, .arr ns)]) : CtP P f args (.v (WrldD.mk e ⟨ns, true⟩ l b)) :=
  Wt.Ct.frz k fun G w u ⟨cs, g1, g3⟩ ho => by
    have ho' : RelO G w o (.arr ns) := by have := ho o; simpa [obs, lk0, orr] using this
    obtain ⟨G', h2, h3, h4⟩ := wrl_own g1 ho' hB
    exact ⟨G', ⟨cs, h2, g3⟩, fun k => h3 k, h4⟩
theorem ct_ownWB {P : Program} {f : FuncId} {args : List AV} {o : Nat} {e : Int} {ns : List NodD} {l : DList VotD} {b : Int} {ok : Bool} (hB : ns.length ≤ big) (k : Ct P f args noObj fun r1 h1 => r1 = .tup [.v (WrldE.mk e (.ref o) l b), .v ok] ∧ h1 = obs [(o, .arr ns)]) : CtP P f args (.tup [.v (WrldD.mk e ⟨ns, true⟩ l b), .v ok]) :=
  Wt.Ct.frz k fun G w u ⟨us, g0, u1, r1, g1, ⟨cs, g2, g3⟩, u2, r2, g4, ⟨cs2, g5, g6⟩, g7⟩ ho => by
    have ho' : RelO G w o (.arr ns) := by have := ho o; simpa [obs, lk0, orr] using this
    obtain ⟨G', h2, h3, h4⟩ := wrl_own (show Enc.rd G w (.ret, [0]) (WrldE.mk e (.ref o) l b) cs from g2) ho' hB
    exact ⟨G', ⟨us, g0, u1, r1, g1, ⟨cs, h2, g3⟩, u2, r2, g4, ⟨cs2, g5, g6⟩, g7⟩, fun k => h3 k, h4⟩
end Go.Wt

/- Slices of zeros whose elements are to own what is behind them. -/
set_option linter.unusedVariables false
set_option linter.unusedSimpArgs false
namespace Go.Wt
open Go
variable {P : Program} {S : Nat → Prop} {ops : Array Oper} {st : St} {d : Nat} {T pos aft} {x y : Operand}
theorem RelSt.newarrZ {α : Type} [Enc α] {G : Gh} {w : Go.World} {a : Act} {o : Nat} {xs : List α} {cs : List Value} {e : TypeId} {cap : Nat} (h : RelSt G w a st) (ho : st.ob o = .free)
    (hr : ∀ (i : Nat) (x : α), xs[i]? = some x → ∃ c, (∀ G w ω, Enc.rd G w ω x c) ∧ ∀ (j : Nat) (v : Value), c[j]? = some v → cs[i * Enc.size α + j]? = some v) (hc : xs.length ≤ cap) (hcs : cap * Enc.size α ≤ cs.length) :
    ∃ G', RelSt G' (w.alloc (.cells cs.toArray e)) a (st.upd [] [(o, .arr xs)]) ∧ (∀ S, Keep S G w G' (w.alloc (.cells cs.toArray e))) ∧
      G'.hdr o = some (.slice (some ⟨w.heap.size, 0, none⟩) xs.length cap) := by
  have hn : G.hdr o = none := by have := h.objs o; rw [ho] at this; exact this
  have h1 := h.newblk (.cells cs.toArray e) (fun _ => some (.blk o, []))
  refine ⟨_, h1.sethdr ho (.slice (some ⟨w.heap.size, 0, none⟩) xs.length cap) (x := .arr xs) ?_, fun S => (Keep.blk S).trans (Keep.hd hn), by simp [Gh.hd]⟩
  refine ⟨w.heap.size, cap, cs, e, by simp [Gh.hd], heap_alloc_eq _ _, hc, hcs, fun i x hx => ?_, fun i hi => by simp [Gh.hd, Gh.blk]⟩
  obtain ⟨c, c1, c2⟩ := hr i x hx
  exact ⟨c, c1 _ _ _, c2⟩
theorem op_mkD {o : Nat} {α : Type} [Enc α] {t E : TypeId} {bytes : Nat} {z0 : α} {n : Int} (sl : SlOk P t E bytes α) (hz : ZeroOk P E z0) (hx : st.ev x = some (.v n)) (hy : st.ev y = some (.v n)) (h0 : 0 ≤ n) (hb : (bytes : Int) * n ≤ 281474976710656) (hn63 : n ≤ 9223372036854775807) (ho : st.ob o = .free) (hn : Nat.blt d st.n = true) :
    OpOk P S ops ⟨some d, .makeSlice t x y, T, pos, aft, none⟩ (opT x ++ opT y) [o] [(d, some (.v (ARef.mk o)))] [(o, .arr (List.replicate n.toNat z0))] st := by
  intro st1 hg G w a hr K Q hK
  unfold stepO
  rw [if_pos (by simp [Region.wanted])]
  refine .inl ?_
  obtain ⟨hu, i, hi, hby, hsz⟩ := sl.spec
  obtain ⟨i', zcs, k1, k2, k3⟩ := hz.ok
  rw [hi] at k1
  injection k1 with k1
  subst k1
  have e1 := RelV.int (hr.at hg hx fun t ht => by simp [ht])
  have e2 := RelV.int (hr.at hg hy fun t ht => by simp [ht])
  have hzl : zcs.length = Enc.size α := Enc.len (k3 G w ω0)
  have hrun : (execOp a.eval ⟨some d, .makeSlice t x y, T, pos, aft, none⟩).run P w = .ok (.value (.slice (some ⟨w.heap.size, 0, none⟩) n.toNat n.toNat)) (w.alloc (.cells (madeCells zcs.toArray (n.toNat * zcs.length)).toList.toArray E)) := by
    have := run_make (P := P) w t E i _ hu hi k2 .i64 .i64 n n (by omega) (Int.le_refl n) (by rw [hby]; exact hb) hn63
    simp only [execOp, e1, e2, Sem.run_bind, this, Result.andThen_ok, Sem.run_pure, Array.toArray_toList, Enc.val_cells (k3 G w ω0), hsz, hzl]
  unfold Oper.wp
  rw [hrun]
  simp only [Oper.upon]
  obtain ⟨G', h1, h2, h3⟩ := hr.newarrZ (o := o) (e := E) (xs := List.replicate n.toNat z0) (cs := (madeCells zcs.toArray (n.toNat * zcs.length)).toList) (cap := n.toNat) (by rw [hg.ob o (by simp), ho]) (fun i x hx => by
    have hi' := getElem?_lt hx
    rw [List.length_replicate] at hi'
    rw [List.getElem?_replicate, if_pos hi'] at hx
    cases hx
    refine ⟨zcs, k3, fun j v hj => ?_⟩
    rw [← hzl]
    exact made_at (by rw [hzl]; exact Enc.size_pos) hi' hj) (by simp) (by simp [size_madeCells, hzl])
  refine hK _ _ G' ?_ (h2 S)
  rw [← St.upd_upd]
  exact h1.put (av := some _) (by show d < st1.n; rw [hg.n]; simpa using hn) ⟨_, ⟨_, _, _, rfl, by rw [h3, List.length_replicate]⟩, rfl⟩
theorem makeSlice_runD {α : Type} [Enc α] {t E : TypeId} {bytes : Nat} {z0 : α} {n : Int} {rt0 ro : List Nat} (sl : SlOk P t E bytes α) (hz : ZeroOk P E z0) (hx : st.ev x = some (.v (0 : Int))) (hy : st.ev y = some (.v n)) (h0 : 0 ≤ n) (hb : (bytes : Int) * n ≤ 281474976710656) (hn63 : n ≤ 9223372036854775807)
    {st1 : St} {G : Gh} {w : Go.World} {a : Act} (hg : Agree rt0 ro st st1) (hr : RelSt G w a st1) (hs : ∀ t ∈ opT x ++ opT y, t ∈ rt0) :
    ∃ cs : List Value, cs.length = n.toNat * Enc.size α ∧ (execOp a.eval ⟨some d, .makeSlice t x y, T, pos, aft, none⟩).run P w = .ok (.value (.slice (some ⟨w.heap.size, 0, none⟩) 0 n.toNat)) (w.alloc (.cells cs.toArray E)) := by
  obtain ⟨hu, i, hi, hby, hsz⟩ := sl.spec
  obtain ⟨i', zcs, k1, k2, k3⟩ := hz.ok
  rw [hi] at k1
  injection k1 with k1
  subst k1
  have e1 := RelV.int (hr.at hg hx fun t ht => hs t (by simp [ht]))
  have e2 := RelV.int (hr.at hg hy fun t ht => hs t (by simp [ht]))
  have hzl : zcs.length = Enc.size α := Enc.len (k3 G w ω0)
  refine ⟨(madeCells zcs.toArray (n.toNat * zcs.length)).toList, by simp [size_madeCells, hzl], ?_⟩
  have := run_make (P := P) w t E i _ hu hi k2 .i64 .i64 0 n (by omega) h0 (by rw [hby]; exact hb) hn63
  simp only [execOp, e1, e2, Sem.run_bind, this, Result.andThen_ok, Sem.run_pure, Array.toArray_toList, Enc.val_cells (k3 G w ω0), hsz, hzl]
  rfl
/-- An empty row with room, for elements that own. -/
theorem op_mkE {o : Nat} {α : Type} [Enc α] {t E : TypeId} {bytes : Nat} {z0 : α} {n : Int} (sl : SlOk P t E bytes α) (hz : ZeroOk P E z0) (hx : st.ev x = some (.v (0 : Int))) (hy : st.ev y = some (.v n)) (h0 : 0 ≤ n) (hb : (bytes : Int) * n ≤ 281474976710656) (hn63 : n ≤ 9223372036854775807) (ho : st.ob o = .free) (hn : Nat.blt d st.n = true) :
    OpOk P S ops ⟨some d, .makeSlice t x y, T, pos, aft, none⟩ (opT x ++ opT y) [o] [(d, some (.v (ARef.mk o)))] [(o, .arr ([] : List α))] st := by
  intro st1 hg G w a hr K Q hK
  unfold stepO
  rw [if_pos (by simp [Region.wanted])]
  refine .inl ?_
  obtain ⟨cs, hl, hrun⟩ := makeSlice_runD (d := d) (T := T) (pos := pos) (aft := aft) sl hz hx hy h0 hb hn63 hg hr (fun _ h => h)
  unfold Oper.wp
  rw [hrun]
  simp only [Oper.upon]
  obtain ⟨G', h1, h2, h3⟩ := hr.newarrZ (o := o) (e := E) (xs := ([] : List α)) (cs := cs) (cap := n.toNat) (by rw [hg.ob o (by simp), ho]) (fun i x hx => by simp at hx) (by simp) (by rw [hl]; exact Nat.le_refl _)
  refine hK _ _ G' ?_ (h2 S)
  rw [← St.upd_upd]
  exact h1.put (av := some _) (by show d < st1.n; rw [hg.n]; simpa using hn) ⟨_, ⟨_, _, _, rfl, h3⟩, rfl⟩
theorem fillm_at {α β : Type} {f : α → β} {l : List α} {k : Nat} {z : β} (h : k < l.length) : ((l.take k).map f ++ List.replicate (l.length - k) z)[k]? = some z := by
  rw [List.getElem?_append_right (by rw [List.length_map, List.length_take]; omega), List.length_map, List.length_take, Nat.min_eq_left (by omega), Nat.sub_self, List.getElem?_replicate, if_pos (by omega)]
theorem fillm_set {α β : Type} {f : α → β} {l : List α} {k : Nat} {x : α} {z : β} (h : l[k]? = some x) : ((l.take k).map f ++ List.replicate (l.length - k) z).set k (f x) = (l.take (k + 1)).map f ++ List.replicate (l.length - (k + 1)) z := by
  have hk := getElem?_lt h
  rw [List.set_append_right _ _ (by rw [List.length_map, List.length_take]; omega), List.length_map, List.length_take, Nat.min_eq_left (by omega), Nat.sub_self, show l.length - k = (l.length - (k + 1)) + 1 by omega, List.replicate_succ, List.set_cons_zero, take_at h, List.map_append, List.append_assoc]
  rfl
theorem fillm_end {α β : Type} {f : α → β} {l : List α} {k : Nat} {z : β} (h : l.length ≤ k) : (l.take k).map f ++ List.replicate (l.length - k) z = l.map f := by
  rw [take_end h, Nat.sub_eq_zero_of_le h]; simp
end Go.Wt
namespace Go.Wt
open Go
theorem obOkD {α : Type} [Enc α] [NoRef α] {p : Nat → Bool} (xs : List α) : obOk p (.arr xs) := fun x _ o ho => by rw [NoRef.refs_eq] at ho; cases ho
theorem obOkE {p : Nat → Bool} {e : Int} {o : Nat} {l : DList VotD} {b : Int} (h : p o = true) : obOk p (.cell (WrldE.mk e (.ref o) l b)) := fun o' ho => by
  have : Enc.refs (WrldE.mk e (.ref o) l b) = [o] := rfl
  rw [this] at ho
  simp at ho; subst ho; exact h
theorem obOkE0 {p : Nat → Bool} {e : Int} {l : DList VotD} {b : Int} : obOk p (.cell (WrldE.mk e .nil l b)) := fun o' ho => by
  have : Enc.refs (WrldE.mk e .nil l b) = [] := rfl
  rw [this] at ho
  cases ho
theorem obOkDc {α : Type} [Enc α] [NoRef α] {p : Nat → Bool} (x : α) : obOk p (.cell x) := fun o ho => by rw [NoRef.refs_eq] at ho; cases ho
end Go.Wt

/- Rows copied, as their place's own; rows cut to their length. -/
set_option linter.unusedVariables false
set_option linter.unusedSimpArgs false
namespace Go.Wt
open Go
variable {P : Program} {S : Nat → Prop} {ops : Array Oper} {st : St} {d : Nat} {T pos aft} {x y z : Operand}
theorem fz_row {w : World} {b : Nat} {cs : Array Value} {e : TypeId} (h : w.heap[b]? = some (.cells cs e (0, 0))) (i : Nat) : fz w b i = false := by
  simp [World.frozen?, h]
theorem op_apD {α : Type} [Enc α] [Plain α] {t t2 E E2 : TypeId} {bytes : Nat} {z0 : α} {av2 : AV} {ys : List α} [hsr : Src α av2 ys] (sl : SlOk P t E bytes α) (hz : ZeroOk P E z0) (ht2 : P.underlying t2 = some (.slice E2))
    (hx : st.ev x = some (.v (CList.mk ([] : List α)))) (hy : st.ev y = some av2) (hb : ys.length * bytes ≤ 140737488355328) (h63 : ys.length ≤ 4611686018427387904) (hn : Nat.blt d st.n = true) :
    OpOk P S ops ⟨some d, .call { callee := .builtin .append, args := #[x, y], argTypes := #[t, t2] }, T, pos, aft, none⟩ (opT x ++ opT y) [] [(d, some (.v (DList.mk ys true)))] [] st := by
  intro st1 hag G w a hr K Q hK
  unfold stepO
  rw [if_pos (by simp [Region.wanted])]
  refine .inl ?_
  have hd' : d < st1.n := by rw [hag.n]; simpa using hn
  obtain ⟨csx, ⟨ad0, g1, g2⟩, g3⟩ := hr.at hag hx fun t ht => by simp [ht]
  have u1 : a.eval x = .slice ad0 0 0 := by rw [g3, g1]; rfl
  obtain ⟨xa, c, v1, v2, v3⟩ := hsr.rel (hr.at hag hy fun t ht => by simp [ht])
  obtain ⟨hu, i, hi, hby, hsz⟩ := sl.spec
  obtain ⟨i', zcs, k1, k2, k3⟩ := hz.ok
  rw [hi] at k1
  injection k1 with k1
  subst k1
  have hexec : ∀ (u : Value) (w' : World), (Builtin.append_ #[t, t2] T #[.slice ad0 0 0, .slice xa ys.length c]).run P w = .ok u w' →
      (execOp a.eval ⟨some d, .call { callee := .builtin .append, args := #[x, y], argTypes := #[t, t2] }, T, pos, aft, none⟩).run P w = .ok (.value u) w' := by
    intro u w' h
    simp only [execOp, resolve, invoke, builtin, List.map_toArray, List.map_cons, List.map_nil, Sem.run_bind, Sem.run_pure, Result.andThen_ok, u1, v1, h]
  unfold Oper.wp
  by_cases hp : ys = []
  · subst hp
    have hrun := run_app_room (P := P) w t t2 T E E2 i hu ht2 hi ad0 0 0 xa 0 c [] (by simp) (.inl rfl) (by simp) (by omega) (.inl rfl)
    have hput : putAt w ad0 (0 * i.size) [] = w := by cases ad0 <;> rfl
    rw [hput] at hrun
    rw [hexec _ _ hrun]
    simp only [Oper.upon]
    exact hK _ w G (hr.put (av := some _) hd' ⟨_, ⟨ad0, 0, rfl, by simp, fun _ => .inl rfl⟩, rfl⟩) (Keep.refl _ _ _)
  · have hp' : 0 < ys.length := List.length_pos_iff.2 hp
    obtain ⟨news, n1, n2, n3, n4⟩ := v3.cells
    have hys : ys.length = 0 ∨ ∃ b o, xa = some ⟨b, o, none⟩ ∧ ∀ j u, news[j]? = some u → cl w b (o + j) = some u := by
      rcases n4 with h | h
      · left; rw [h]; rfl
      · right; exact h
    have hrun := run_app_grow (P := P) w t t2 T E E2 i (Enc.val α zcs) hu ht2 hi k2 ad0 0 0 [] (by simp) (.inl rfl) xa ys.length c news (by rw [n1, hsz]) hys (by omega) (by omega) (by rw [hby]; simpa using hb)
    rw [hexec _ _ hrun]
    simp only [Oper.upon, Nat.zero_add]
    have hge := grownCap_ge w ys.length 0 E
    have harr : (news ++ (Builtin.zeroCells (Enc.val α zcs).cells (grownCap w ys.length 0 E - ys.length)).toList).toArray = ([] : List Value).toArray ++ news.toArray ++ Builtin.zeroCells (Enc.val α zcs).cells (grownCap w ys.length 0 E - ys.length) := by
      apply Array.ext'
      simp
    rw [← harr]
    generalize hcs' : news ++ (Builtin.zeroCells (Enc.val α zcs).cells (grownCap w ys.length 0 E - ys.length)).toList = cs'
    have q1 := hr.drew.newblk (.cells cs'.toArray E) (fun j => if j < ys.length * Enc.size α then some ((.tmp d, [1]) : Owner) else some (.junk, []))
    have hwh : w.drew.heap.size = w.heap.size := rfl
    refine hK _ _ _ (q1.put (av := some (.v (DList.mk ys true))) hd' ⟨_, ⟨some ⟨w.heap.size, 0, none⟩, grownCap w ys.length 0 E, rfl, hge, fun _ => .inr ⟨w.heap.size, 0, rfl, h63, fun k x' hk => ?_⟩⟩, rfl⟩) ((Keep.drew S G w).trans (Keep.blk S))
    obtain ⟨ce, r1, r2⟩ := n2.2 k x' hk
    refine ⟨ce, Plain.mono (ω := ω0) Sh.blk (Plain.mono (G := G) (w := w) (w' := w.drew) (fun _ _ _ h1 h2 => ⟨h1, h2⟩) r1), fun j v hj => ?_⟩
    have hjl : j < Enc.size α := by rw [← Enc.len r1]; exact getElem?_lt hj
    have hlt := lt_mul_of (getElem?_lt hk) hjl
    have hnj := r2 j v hj
    rw [Nat.zero_add]
    refine ⟨?_, ?_, ?_⟩
    · simp only [Gh.blk]
      rw [hwh, if_pos rfl, if_pos hlt]; rfl
    · have := heap_alloc_eq w.drew (.cells cs'.toArray E)
      rw [hwh] at this
      rw [cl_row this, ← hcs', List.getElem?_append_left (getElem?_lt hnj)]
      exact hnj
    · have := heap_alloc_eq w.drew (.cells cs'.toArray E)
      rw [hwh] at this
      exact fz_row this _
/-- A row that is its place's own is cut to its length. -/
theorem op_clD {E bytes t : TypeId} {α : Type} [Enc α] [NoRef α] {xs : List α} {h m : Int} {s : Nat} {u : Operand} (sl : SlOk P t E bytes α) (hx : st.tm s = some (.v (DList.mk xs true))) (hz : st.ev z = some (.v h)) (hu : st.ev u = some (.v m)) (hne : Nat.beq s d = false) (hn : Nat.blt d st.n = true) (hb : h = xs.length ∧ m = xs.length) :
    OpOk P S ops ⟨some d, .slice t (.tmp s) none (some z) (some u), T, pos, aft, none⟩ (s :: (opT z ++ opT u)) [] [(d, some (.v (DList.mk xs true))), (s, some (.v (DList.mk xs false)))] [] st := by
  intro st1 hag G w a hr K Q hK
  unfold stepO
  rw [if_pos (by simp [Region.wanted])]
  refine .inl ?_
  have hsd : s ≠ d := by intro e; subst e; simp at hne
  have hd' : d < st1.n := by rw [hag.n]; simpa using hn
  have hv := hr.tmps s
  rw [hag.tm s (by simp), hx] at hv
  obtain ⟨cs, ⟨ad, cap, g1, g2, g4⟩, g3⟩ := hv
  have h1 : a.eval (.tmp s) = .slice ad xs.length cap := by
    show a.tmps.getD s undef = _
    rw [g3, g1]; rfl
  have e2 := RelV.int (hr.at hag hz fun t ht => by simp [ht])
  have e4 := RelV.int (hr.at hag hu fun t ht => by simp [ht])
  obtain ⟨k1, k2⟩ := sl.elem
  obtain ⟨rfl, rfl⟩ := hb
  have hrun : (execOp a.eval ⟨some d, .slice t (.tmp s) none (some z) (some u), T, pos, aft, none⟩).run P w = .ok (.value (sliced ad 0 xs.length xs.length (Enc.size α))) w := by
    simp only [execOp, h1, e2, e4, Option.map_none, Option.map_some, Sem.run_bind, run_sliceAt_slice _ _ _ _ _ _ k1, run_slice_hm w t ad xs.length cap k1 .i64 .i64 (xs.length : Int) (xs.length : Int) (by omega) (by omega) (by simpa using g2), k2, sl.el.size, Result.andThen_ok, Sem.run_pure, Int.toNat_natCast]
  have hrd : ∃ a' : Option Addr, sliced ad 0 xs.length xs.length (Enc.size α) = .slice a' xs.length xs.length ∧ (xs = [] ∨ a' = ad) := by
    rcases g4 rfl with h | ⟨b, off, ha, _⟩
    · have h' : xs = [] := h
      subst h'
      exact ⟨_, rfl, .inl rfl⟩
    · exact ⟨ad, by rw [ha]; simp [sliced]; intro _; exact add_lit _ _ _, .inr rfl⟩
  obtain ⟨a', ha1, ha2⟩ := hrd
  unfold Oper.wp
  rw [hrun]
  simp only [Oper.upon]
  have hts : st1.tm s = some (.v (DList.mk xs true)) := by rw [hag.tm s (by simp)]; exact hx
  refine hK _ w (G.mv (.tmp s, []) (.tmp d, [])) ⟨hr.defers, by show (a.tmps.setIfInBounds d _).size = _; simp [hr.size], fun q => ?_, fun k => ?_⟩ (Keep.mv S (by simp) (by simp))
  · show RelT _ _ _ (orr (lk [(d, some (.v (DList.mk xs true))), (s, some (.v (DList.mk xs false)))] q) (st1.tm q)) ((a.tmps.setIfInBounds d _).getD q undef)
    rw [getD_set _ _ _ _ (by rw [hr.size]; exact hd')]
    simp only [lk]
    by_cases eq : q = d
    · subst eq
      rw [if_pos rfl, if_pos rfl]
      refine ⟨[.slice a' xs.length xs.length], ⟨a', xs.length, rfl, Nat.le_refl _, fun _ => ?_⟩, by rw [ha1]; rfl⟩
      rcases ha2 with h | h
      · exact .inl h
      · rw [h]
        exact (g4 rfl).mono Sh.mv (Ow.mv_src (s := (.tmp s, [])))
    · rw [if_neg eq, if_neg eq]
      by_cases e2 : q = s
      · subst e2
        rw [if_pos rfl]
        exact ⟨cs, ⟨ad, cap, g1, g2, fun h => by cases h⟩, g3⟩
      · rw [if_neg e2]
        exact (hr.tmps q).mono Sh.mv (Ow.mv_other (by simpa using e2) (by simpa using eq)) (fun _ _ _ h => h)
  · obtain ⟨T', hT⟩ := Obj.refs_all (st1.ob k)
    exact (hr.objs k).pres Sh.mv (fun _ _ _ h => h) hT (PresO.mv (by simp) (by simp) (by simp) (by simp))
/-- How long a row is that is its place's own. -/
theorem op_lenD {E bytes t : TypeId} {α : Type} [Enc α] [NoRef α] {xs : List α} {own : Bool} (sl : SlOk P t E bytes α) (hx : st.ev x = some (.v (DList.mk xs own))) (hn : Nat.blt d st.n = true) :
    OpOk P S ops ⟨some d, .call { callee := .builtin .len, args := #[x], argTypes := #[t] }, T, pos, aft, none⟩ (opT x) [] [(d, some (.v (xs.length : Int)))] [] st :=
  OpOk.value rfl rfl (by simpa using hn) fun st1 hag G w a hr => ⟨.int .i64 xs.length, by
    have u1 : ∃ ad cap, a.eval x = .slice ad xs.length cap := by
      obtain ⟨cs, ⟨ad, cap, h1, _⟩, h2⟩ := hr.at hag hx fun t ht => ht
      exact ⟨ad, cap, by rw [h2, h1]; rfl⟩
    obtain ⟨ad, cap, u1⟩ := u1
    simp [execOp, resolve, invoke, builtin, Builtin.len_, u1, run_underlying sl.spec.1, goInt], relInt _ _ _ _⟩
end Go.Wt

/- A struct is built of parts, one of which comes with what it owns. -/
set_option linter.unusedVariables false
set_option linter.unusedSimpArgs false
namespace Go.Wt
open Go
variable {P : Program} {S : Nat → Prop} {ops : Array Oper} {st : St} {d : Nat} {T pos aft} {x y z : Operand}
inductive PartsM (P : Program) (T : TypeId) (st : St) (s : Nat) (p : List Nat) {α : Type} [Enc α] : List (Nat × Operand) → α → α → List Nat → Prop
  | nil (x : α) : PartsM P T st s p [] x x []
  | cons {γ : Type} [Enc γ] {k off : Nat} {get : α → γ} {set : α → γ → α} {pth : List Nat} {op : Operand} {rest : List (Nat × Operand)} {x : α} {y : γ} {z : α} {rt : List Nat} {av : AV}
      (h : FldOk P T k get set off pth) (hx : st.ev op = some av) (hd : av.dis = av) (hc : Conv av (.v y)) (r : PartsM P T st s p rest (set x y) z rt) : PartsM P T st s p ((k, op) :: rest) x z (opT op ++ rt)
  | mv {γ : Type} [Enc γ] {k off : Nat} {get : α → γ} {set : α → γ → α} {rest : List (Nat × Operand)} {x : α} {y : γ} {z : α} {rt : List Nat}
      (h : FldOk P T k get set off p) (hx : st.tm s = some (.v y)) (r : PartsM P T st s p rest (set x y) z rt) : PartsM P T st s p ((k, .tmp s) :: rest) x z (s :: rt)
theorem op_buildM {α : Type} [Enc α] {z0 r : α} {rt : List Nat} {s : Nat} {p : List Nat} {av0 : AV} {parts : List (Nat × Operand)} {t : TypeId} (hp : PartsM P t st s p parts z0 r rt) (hs : st.tm s = some av0) (hne : Nat.beq s d = false) (hz : ZeroOk P t z0) (hag : Enc.agg α = true) (hpl : plB P t = true) (hn : Nat.blt d st.n = true) :
    OpOk P S ops ⟨some d, .build t parts.toArray, T, pos, aft, none⟩ (s :: rt) [] [(d, some (.v r)), (s, some av0.dis)] [] st := by
  intro st1 hg G w a hr K Q hK
  unfold stepO
  rw [if_pos (by simp [Region.wanted])]
  refine .inl ?_
  have hsd : s ≠ d := by intro e; subst e; simp at hne
  have hd' : d < st1.n := by rw [hg.n]; simpa using hn
  have hG : ∀ T' : List Nat, Hm T' G (G.mv (.tmp s, []) (.tmp d, p)) := fun _ _ _ _ h => h
  have hrun : ∃ ds, (execOp a.eval ⟨some d, .build t parts.toArray, T, pos, aft, none⟩).run P w = .ok (.value (.agg ds.toArray)) w ∧ Enc.rd (G.mv (.tmp s, []) (.tmp d, p)) w (.tmp d, []) r ds := by
    unfold plB at hpl
    split at hpl
    · rename_i fs hu
      obtain ⟨places, hplaces⟩ := Option.isSome_iff_exists.1 hpl
      obtain ⟨i, zcs, h1, h2, h3⟩ := hz.ok
      have key : ∀ (parts : List (Nat × Operand)) (x0 r : α) (rt' : List Nat), PartsM P t st s p parts x0 r rt' → (∀ t ∈ rt', t ∈ s :: rt) → ∀ cs, Enc.rd (G.mv (.tmp s, []) (.tmp d, p)) w (.tmp d, []) x0 cs →
          ∃ ds, Instr.fill (places.toArray[·]?) cs.toArray (parts.map fun (i, x) => (i, a.eval x)) = some ds.toArray ∧ Enc.rd (G.mv (.tmp s, []) (.tmp d, p)) w (.tmp d, []) r ds := by
        intro parts x0 r rt' hp'
        clear hp
        induction hp' with
        | nil x => intro _ cs h; exact ⟨cs, rfl, h⟩
        | @cons γ _ k off get set pth op rest x y z rt av h hx hd hc r ih =>
          intro hsub cs hcs
          have hv := (hr.at hg hx fun t ht => hsub _ (List.mem_append_left _ ht)).mono_dis (ω' := ω0) (Sh.mv (s := (.tmp s, [])) (d := (.tmp d, p))) (hG _)
          rw [hd] at hv
          obtain ⟨ds, k1, k2⟩ := hc (ω' := (.tmp d, pth)) hv
          have hl := Enc.len k1
          have hcl := Enc.len hcs
          have hf := h.len.fits
          have hok := h.ok
          unfold fldB at hok
          rw [hu] at hok
          simp only at hok
          split at hok
          · rename_i f hfk
            simp only [Bool.and_eq_true, beq_iff_eq] at hok
            obtain ⟨o1, o2⟩ := hok
            cases hi : P.info? f.type with
            | none => rw [hi] at o2; cases o2
            | some j =>
              rw [hi] at o2
              simp only [beq_iff_eq] at o2
              have hpk := mapM_get hplaces _ (by rw [← Array.getElem?_toList] at hfk; exact hfk) hi
              rw [o1, o2, ← hl] at hpk
              simp only [List.map_cons]
              rw [fill_cons (by simpa using hpk) (by rw [k2]; exact Enc.val_cells k1) (by rw [hl, hcl]; exact hf)]
              refine ih (fun t ht => hsub _ (List.mem_append_right _ ht)) _ ?_
              rw [hl]
              exact h.len.rd_set hcs k1 (Sh.refl _ _) (Ow.refl _ _ _ _) (fun _ _ _ h => h)
          · cases hok
        | @mv γ _ k off get set rest x y z rt h hx r ih =>
          intro hsub cs hcs
          have hv := hr.tmps s
          rw [hg.tm s (by simp), hx] at hv
          obtain ⟨ds, k0, k2⟩ := hv
          have k1 : Enc.rd (G.mv (.tmp s, []) (.tmp d, p)) w (.tmp d, p) y ds := Enc.mono Sh.mv (Ow.mv_src (s := (.tmp s, []))) (hG _) k0
          have hl := Enc.len k1
          have hcl := Enc.len hcs
          have hf := h.len.fits
          have hok := h.ok
          unfold fldB at hok
          rw [hu] at hok
          simp only at hok
          split at hok
          · rename_i f hfk
            simp only [Bool.and_eq_true, beq_iff_eq] at hok
            obtain ⟨o1, o2⟩ := hok
            cases hi : P.info? f.type with
            | none => rw [hi] at o2; cases o2
            | some j =>
              rw [hi] at o2
              simp only [beq_iff_eq] at o2
              have hpk := mapM_get hplaces _ (by rw [← Array.getElem?_toList] at hfk; exact hfk) hi
              rw [o1, o2, ← hl] at hpk
              simp only [List.map_cons]
              rw [fill_cons (by simpa using hpk) (by rw [show a.eval (.tmp s) = _ from k2]; exact Enc.val_cells k1) (by rw [hl, hcl]; exact hf)]
              refine ih (fun t ht => hsub _ (List.mem_cons_of_mem _ ht)) _ ?_
              rw [hl]
              exact h.len.rd_set hcs k1 (Sh.refl _ _) (Ow.refl _ _ _ _) (fun _ _ _ h => h)
          · cases hok
      obtain ⟨ds, k1, k2⟩ := key parts z0 r rt hp (fun _ h => List.mem_cons_of_mem _ h) zcs (h3 _ w (.tmp d, []))
      refine ⟨ds, ?_, k2⟩
      have hb : P.built t (parts.map fun (i, x) => (i, a.eval x)) = some ds.toArray := by
        unfold Program.built
        rw [h1, hu]
        simp only [h2, hplaces, Enc.val_cells (h3 G w ω0)]
        exact k1
      simp only [execOp, Sem.run_bind, List.map_toArray]
      rw [run_build w t _ _ hb]
      rfl
    · cases hpl
  obtain ⟨ds, hr1, hr2⟩ := hrun
  unfold Oper.wp
  rw [hr1]
  simp only [Oper.upon]
  refine hK _ w (G.mv (.tmp s, []) (.tmp d, p)) ⟨hr.defers, by show (a.tmps.setIfInBounds d _).size = _; simp [hr.size], fun q => ?_, fun k => ?_⟩ (Keep.mv S (by simp) (by simp))
  · show RelT _ _ _ (orr (lk [(d, some (.v r)), (s, some av0.dis)] q) (st1.tm q)) ((a.tmps.setIfInBounds d _).getD q undef)
    rw [getD_set _ _ _ _ (by rw [hr.size]; exact hd')]
    simp only [lk]
    by_cases eq : q = d
    · subst eq
      rw [if_pos rfl, if_pos rfl]
      exact ⟨ds, hr2, by simp [Enc.val, hag]⟩
    · rw [if_neg eq, if_neg eq]
      by_cases e2 : q = s
      · subst e2
        rw [if_pos rfl]
        have hv := hr.tmps q
        rw [hg.tm q (by simp), hs] at hv
        exact RelV.mono_dis Sh.mv (hG _) hv
      · rw [if_neg e2]
        exact (hr.tmps q).mono Sh.mv (Ow.mv_other (by simpa using e2) (by simpa using eq)) (fun _ _ _ h => h)
  · obtain ⟨T', hT⟩ := Obj.refs_all (st1.ob k)
    exact (hr.objs k).pres Sh.mv (fun _ _ _ h => h) hT (PresO.mv (by simp) (by simp) (by simp) (by simp))
theorem Conv.nilD {α : Type} [Enc α] [NoRef α] : Conv .nil (.v (DList.mk ([] : List α) true)) := fun {G w ω ω' u} h => ⟨[.slice none 0 0], ⟨none, 0, rfl, by simp, fun _ => .inl rfl⟩, h⟩
end Go.Wt

/- Handles of deep values, and their memory kept aside. -/
set_option linter.unusedVariables false
set_option linter.unusedSimpArgs false
namespace Go.Wt
open Go
variable {P : Program} {S : Nat → Prop} {ops : Array Oper} {st : St} {d : Nat} {T pos aft} {x y z : Operand}
/-- Words as they are. -/
structure Rv (n : Nat) where
  c : List Value
instance {n : Nat} : Enc (Rv n) where
  size := n + 1
  agg := Nat.ble 1 n
  size_pos := by omega
  agg_size := fun h => by
    cases n with
    | zero => rfl
    | succ k => cases h
  rd := fun _ _ _ r cs => cs = r.c ∧ r.c.length = n + 1 ∧ ∀ v ∈ r.c, v.oneCell' = true
  refs := fun _ => []
  dis := fun r => r
  len := fun ⟨h, h1, _⟩ => by rw [h, h1]
  one := fun ⟨h, _, h2⟩ c hc => h2 c (by rw [← h]; exact hc)
  mono := fun _ _ _ h => h
  mono_dis := fun _ _ h => h
instance {n : Nat} : Plain (Rv n) := ⟨fun _ => rfl, fun _ => rfl⟩
def Rv.z0 : Rv 0 := ⟨[.slice none 0 0]⟩
def Rv.z3 : Rv 3 := ⟨[.int .i64 0, .slice none 0 0, .slice none 0 0, .int .i64 0]⟩
def Rv.z7 : Rv 7 := ⟨[.int .i64 0, .int .i64 0, .int .i64 0, .int .i64 0, .int .i64 0, .int .i64 0, .int .i64 0, .slice none 0 0]⟩
instance : ZCells (Rv 0) .z0 := ⟨Rv.z0.c, fun _ _ _ => ⟨rfl, rfl, by simp [Rv.z0, Value.oneCell']⟩⟩
instance : ZCells (Rv 3) .z3 := ⟨Rv.z3.c, fun _ _ _ => ⟨rfl, rfl, by simp [Rv.z3, Value.oneCell']⟩⟩
instance : ZCells (Rv 7) .z7 := ⟨Rv.z7.c, fun _ _ _ => ⟨rfl, rfl, by simp [Rv.z7, Value.oneCell']⟩⟩
/-- What is said of a value and of the addresses behind it stays so while the words there stay; it can be read. -/
class ESt {α : Type} [Enc α] [Plain α] (E : EPred α) : Prop where
  mono : ∀ {w w' : Go.World} {c x L}, Agr L w w' → E w c x L → E w' c x L
  rd : ∀ {G : Gh} {w : Go.World} {c x L}, (∀ a ∈ L, G.own a.1 a.2 = none) → E w c x L → Enc.rd G w ω0 x c
  has : ∀ {w : Go.World} {c x L}, E w c x L → Has w L
instance : ESt EE := ⟨fun k h => EE.ok.mono k h, fun hn h => EE.ok.rd hn h, fun h => EE.has h⟩
instance : ESt (ES EE 8) := ⟨fun k ⟨u, h1, h2⟩ => ⟨u, h1, h2.mono EE.ok k⟩, fun hn ⟨u, h1, h2⟩ => by rw [h1]; exact h2.rd EE.ok hn, fun ⟨u, h1, h2⟩ => h2.has EE.has (by decide)⟩
instance : ESt (ES EP 3) := ⟨fun k ⟨u, h1, h2⟩ => ⟨u, h1, h2.mono EP.ok k⟩, fun hn ⟨u, h1, h2⟩ => by rw [h1]; exact h2.rd EP.ok hn, fun ⟨u, h1, h2⟩ => h2.has EP.has (by decide)⟩
instance : ESt EWd := ⟨fun k ⟨h1, h2, L1, L2, e1, e2, e3⟩ => ⟨h1, h2, L1, L2, e1, ⟨e2.1.mono EN.ok (k.sub fun a ha => by rw [e3]; exact List.mem_append_left _ ha), e2.2.mono EV.ok (k.sub fun a ha => by rw [e3]; exact List.mem_append_right _ ha)⟩, e3⟩,
  fun hn ⟨h1, h2, L1, L2, e1, e2, e3⟩ => by
    rw [e1]
    exact e2.rd (fun a ha => hn a (by rw [e3]; exact List.mem_append_left _ ha)) (fun a ha => hn a (by rw [e3]; exact List.mem_append_right _ ha)),
  fun ⟨h1, h2, L1, L2, e1, e2, e3⟩ a ha => by
    rw [e3] at ha
    rcases List.mem_append.1 ha with ha | ha
    · exact e2.1.has EN.has (by decide) a ha
    · exact e2.2.has EV.has (by decide) a ha⟩
/-- The memory of a deep value whose words are known. -/
structure Rm {α : Type} (E : EPred α) where
  c : List Value
  x : α
  own : Bool
theorem Mine.mono {G G' : Gh} {w w' : Go.World} {ω ω' : Owner} {L : List Adr} (ho : Ow G w ω G' w' ω' never) (h : Mine G w ω L) : Mine G' w' ω' L ∧ Agr L w w' := by
  refine ⟨⟨h.1, fun a ha => ?_⟩, fun a ha v hv => ?_⟩
  · obtain ⟨⟨π, h1⟩, ⟨v, h2⟩, h3⟩ := h.2 a ha
    obtain ⟨k1, k2, k3⟩ := ho a.1 a.2 π v id h1 h2
    exact ⟨⟨π, k1⟩, ⟨v, k2⟩, k3 h3⟩
  · obtain ⟨⟨π, h1⟩, _⟩ := h.2 a ha
    exact (ho a.1 a.2 π v id h1 hv).2.1
instance {α : Type} [Enc α] [Plain α] {E : EPred α} [ESt E] : Enc (Rm E) where
  size := 1
  agg := false
  size_pos := by decide
  agg_size := fun _ => rfl
  rd := fun G w ω r cs => (∃ c : Value, cs = [c] ∧ c.oneCell' = true) ∧ (r.own = true → ∃ L, E w r.c r.x L ∧ Mine G w ω L)
  refs := fun _ => []
  dis := fun r => ⟨r.c, r.x, false⟩
  len := fun ⟨⟨_, h, _⟩, _⟩ => by rw [h]; rfl
  one := fun ⟨⟨_, h, h1⟩, _⟩ c hc => by rw [h] at hc; simp at hc; rw [hc]; exact h1
  mono := fun hs ho _ ⟨h, h1⟩ => ⟨h, fun k => by
    obtain ⟨L, l1, l2⟩ := h1 k
    obtain ⟨m1, m2⟩ := l2.mono ho
    exact ⟨L, ESt.mono m2 l1, m1⟩⟩
  mono_dis := fun hs _ ⟨h, h1⟩ => ⟨h, fun k => by cases k⟩

/-! ### Arguments, read as values -/
inductive XArgs (st : St) : List Operand → List AV → List Nat → Prop
  | nil : XArgs st [] [] []
  | pl {α : Type} [Enc α] [Plain α] {x : Operand} {y : α} {xs : List Operand} {avs : List AV} {rt : List Nat} (hx : st.ev x = some (.v y)) (r : XArgs st xs avs rt) : XArgs st (x :: xs) (.v y :: avs) (opT x ++ rt)
  | rv {α : Type} [Enc α] [Plain α] {E : EPred α} [ESt E] {n t : Nat} (q : Nat) {cs : List Value} {y : α} {xs : List Operand} {avs : List AV} {rt : List Nat} (hx : st.tm t = some (.v (Rv.mk (n := n) cs))) (hq : st.tm q = some (.v (Rm.mk (E := E) cs y true)))
      (ha : Enc.agg α = Nat.ble 1 n) (r : XArgs st xs avs rt) : XArgs st (.tmp t :: xs) (.v y :: avs) (t :: q :: rt)
theorem XArgs.rel {G : Gh} {w : Go.World} {a : Act} {st1 : St} {rt0 ro : List Nat} (hr : RelSt G w a st1) (hg : Agree rt0 ro st st1) {xs : List Operand} {avs : List AV} {rt : List Nat} (h : XArgs st xs avs rt) : ∀ k, (∀ t ∈ rt, t ∈ rt0) → RelAs Gn w k avs (xs.map a.eval) := by
  induction h with
  | nil => intro k _; rfl
  | @pl α _ _ x y xs avs rt hx r ih =>
    intro k hs
    obtain ⟨cs, h1, h2⟩ := hr.at hg hx fun t ht => hs t (List.mem_append_left _ ht)
    exact ⟨_, _, rfl, ⟨cs, rd_Gn h1, h2⟩, ih (k + 1) fun t ht => hs t (List.mem_append_right _ ht)⟩
  | @rv α _ _ E _ n t q cs y xs avs rt hx hq ha r ih =>
    intro k hs
    have h1 := hr.tmps t
    rw [hg.tm t (hs t (by simp)), hx] at h1
    obtain ⟨cs', ⟨e1, _⟩, e2⟩ := h1
    have e1' : cs' = cs := e1
    subst e1'
    have h3 := hr.tmps q
    rw [hg.tm q (hs q (by simp)), hq] at h3
    obtain ⟨ds, ⟨_, d2⟩, _⟩ := h3
    obtain ⟨L, l1, _⟩ := d2 rfl
    refine ⟨_, _, rfl, ⟨cs', rd_Gn (ESt.rd (E := E) (G := Gn) (fun _ _ => rfl) l1), ?_⟩, ih (k + 1) fun t ht => hs t (by simp [ht])⟩
    have e3 : a.eval (.tmp t) = Enc.val (Rv n) cs' := e2
    rw [e3]
    unfold Enc.val
    rw [ha]
    rfl
/-! ### Calls that only look -/
theorem RelSt.frg {G : Gh} {w w' : Go.World} {a : Act} (f : FrG [] w w') (h : RelSt G w a st) : RelSt G w' a st ∧ ∀ S, Keep S G w G w' := by
  have hc : ∀ b i v, cl w b i = some v → cl w' b i = some v := fun b i v hv => by rw [f.cell b i (cl_lt hv) (by simp)]; exact hv
  have hz : ∀ b i v, cl w b i = some v → fz w' b i = fz w b i := fun b i v hv => f.fz b i (cl_lt hv)
  have hs : Sh G w G w' := fun b i v h1 h2 => ⟨h1, hc b i v h2⟩
  have ho : ∀ ω, Ow G w ω G w' ω never := fun ω b i π v _ h1 h2 => ⟨h1, hc b i v h2, fun hf => (hz b i v h2).trans hf⟩
  refine ⟨⟨h.defers, h.size, fun t => (h.tmps t).mono hs (ho _) (fun _ _ _ h => h), fun o => ?_⟩, fun S => ⟨f.os, f.tape, f.output, f.size, fun b i v _ hv => ⟨rfl, hc b i v hv, hz b i v hv⟩, fun b hb _ => f.block b hb (by simp), fun _ _ _ h => h⟩⟩
  obtain ⟨T', hT⟩ := Obj.refs_all (st.ob o)
  exact (h.objs o).pres hs (fun _ _ _ h => h) hT ⟨rfl, fun b _ hb => ⟨f.block b hb (by simp), fun _ h => h⟩, ho _⟩
theorem call_run {f : FuncId} {xs : List Operand} {ts : Array TypeId} (hB : fnB P f = true) (a : Act) (w : Go.World) :
    (execOp a.eval ⟨some d, .call { callee := .value (.func f), args := xs.toArray, argTypes := ts }, T, pos, aft, none⟩).run P w = .ok (.enter f (xs.map a.eval).toArray) w := by
  have e1 : a.eval (.func f) = .func (.func f) #[] #[] := rfl
  simp only [execOp, resolve, Deferred.ofValue, e1, Sem.run_bind, Sem.run_pure, Result.andThen_ok, invoke, callFunc_run hB]
  simp
theorem op_obsB {f : FuncId} {xs : List Operand} {avs : List AV} {rt : List Nat} {b : Bool} {ts : Array TypeId} (hB : fnB P f = true) (ha : XArgs st xs avs rt) (h : CtP P f avs (.v b)) (hn : Nat.blt d st.n = true) :
    OpOk P S ops ⟨some d, .call { callee := .value (.func f), args := xs.toArray, argTypes := ts }, T, pos, aft, none⟩ rt [] [(d, some (.v b))] [] st := by
  intro st1 hag G w a hr K Q hK
  have hd : d < st1.n := by rw [hag.n]; simpa using hn
  unfold stepO
  rw [if_pos (by simp [Region.wanted])]
  refine .inl ?_
  unfold Oper.wp
  rw [call_run hB]
  simp only [Oper.upon]
  refine (calls_bool h (ha.rel hr hag 0 fun _ h => h)).mono ?_
  rintro e w' ⟨rfl, hf⟩
  obtain ⟨h1, h2⟩ := hr.frg hf
  exact hK _ _ G (h1.put (av := some (.v b)) hd ⟨_, rfl, rfl⟩) (h2 S)
theorem op_obsI {f : FuncId} {xs : List Operand} {avs : List AV} {rt : List Nat} {b : Int} {ts : Array TypeId} (hB : fnB P f = true) (ha : XArgs st xs avs rt) (h : CtP P f avs (.v b)) (hn : Nat.blt d st.n = true) :
    OpOk P S ops ⟨some d, .call { callee := .value (.func f), args := xs.toArray, argTypes := ts }, T, pos, aft, none⟩ rt [] [(d, some (.v b))] [] st := by
  intro st1 hag G w a hr K Q hK
  have hd : d < st1.n := by rw [hag.n]; simpa using hn
  unfold stepO
  rw [if_pos (by simp [Region.wanted])]
  refine .inl ?_
  unfold Oper.wp
  rw [call_run hB]
  simp only [Oper.upon]
  refine (calls_int h (ha.rel hr hag 0 fun _ h => h)).mono ?_
  rintro e w' ⟨rfl, hf⟩
  obtain ⟨h1, h2⟩ := hr.frg hf
  exact hK _ _ G (h1.put (av := some (.v b)) hd ⟨_, rfl, rfl⟩) (h2 S)
/-! ### Calls that mark -/
theorem RelSt.frL {G : Gh} {w w' : Go.World} {a : Act} {q : Nat} {L : List Adr} (f : FrG L w w') (hm : Mine G w (.tmp q, []) L) (h : RelSt G w a st) :
    (∀ t, t ≠ q → RelT G w' (.tmp t, []) (st.tm t) (a.tmps.getD t undef)) ∧ (∀ o, RelO G w' o (st.ob o)) ∧ ∀ S, Keep S G w G w' := by
  have hown : ∀ b i, (b, i) ∈ L → ∃ π, G.own b i = some (.tmp q, π) := fun b i hb => by
    obtain ⟨⟨π, h1⟩, _⟩ := hm.2 (b, i) hb
    exact ⟨_, h1⟩
  have hhas : ∀ b i, (b, i) ∈ L → ∃ v, cl w b i = some v := fun b i hb => (hm.2 (b, i) hb).2.1
  have hc : ∀ b i v, (∀ π, G.own b i ≠ some (.tmp q, π)) → cl w b i = some v → cl w' b i = some v ∧ fz w' b i = fz w b i := fun b i v hn hv => by
    refine ⟨?_, f.fz b i (cl_lt hv)⟩
    rw [f.cell b i (cl_lt hv) (fun hb => by obtain ⟨π, h1⟩ := hown b i hb; exact hn π h1)]; exact hv
  have hs : Sh G w G w' := fun b i v h1 h2 => ⟨h1, (hc b i v (by rw [h1]; simp) h2).1⟩
  have ho : ∀ ω : Owner, ω.1 ≠ .tmp q → Ow G w ω G w' ω never := fun ω hω b i π v _ h1 h2 => by
    obtain ⟨k1, k2⟩ := hc b i v (by rw [h1]; intro π' e; injection e with e; exact hω (congrArg Prod.fst e)) h2
    exact ⟨h1, k1, fun hf => k2.trans hf⟩
  have hblk : ∀ b, b < w.heap.size → (∀ i v, cl w b i = some v → ∀ π, G.own b i ≠ some (.tmp q, π)) → w'.heap[b]? = w.heap[b]? := fun b hb hn => f.block b hb fun i hi => by
    obtain ⟨v, hv⟩ := hhas b i hi
    obtain ⟨π, h1⟩ := hown b i hi
    exact hn i v hv π h1
  refine ⟨fun t ht => (h.tmps t).mono hs (ho _ (by simpa using ht)) (fun _ _ _ h => h), fun o => ?_, fun S => ⟨f.os, f.tape, f.output, f.size, fun b i v h1 hv => ?_, fun b hb hn => hblk b hb fun i v hv π => ?_, fun _ _ _ h => h⟩⟩
  · have h0 := h.objs o
    obtain ⟨T', hT⟩ := Obj.refs_all (st.ob o)
    cases hk : st.ob o with
    | dead => trivial
    | free => rw [hk] at h0; exact h0
    | cell x =>
      rw [hk] at h0 hT
      obtain ⟨b, cs, e, h1, h2, h3, h4⟩ := id h0
      refine h0.pres hs (fun _ _ _ h => h) hT ⟨rfl, fun b' hb' hlt => ⟨?_, fun _ h => h⟩, ho _ (by simp)⟩
      have : b = b' := by rw [h1] at hb'; simpa [blkOf] using hb'
      subst this
      refine hblk b hlt fun i v hv π => ?_
      rw [cl_row h2] at hv
      rw [h4 i (getElem?_lt hv)]
      simp
    | arr xs =>
      rw [hk] at h0 hT
      obtain ⟨b, cap, cs, e, h1, h2, h3, h4, h5, h6⟩ := id h0
      refine h0.pres hs (fun _ _ _ h => h) hT ⟨rfl, fun b' hb' hlt => ⟨?_, fun _ h => h⟩, ho _ (by simp)⟩
      have : b = b' := by rw [h1] at hb'; simpa [blkOf] using hb'
      subst this
      refine hblk b hlt fun i v hv π => ?_
      rw [cl_row h2] at hv
      rw [h6 i (getElem?_lt hv)]
      simp
  · obtain ⟨k1, k2⟩ := hc b i v (by rcases h1 with h1 | ⟨π, h1⟩ <;> (rw [h1]; simp)) hv
    exact ⟨rfl, k1, k2⟩
  · rcases hn i v hv with h1 | ⟨π', h1⟩ <;> (rw [h1]; simp)
theorem op_mark {f : FuncId} {t q n : Nat} {α : Type} [Enc α] [Plain α] {E : EPred α} [ESt E] {cs : List Value} {y0 y1 : α} {k k' : Int} {ts : Array TypeId} (hB : fnB P f = true) (ht : st.tm t = some (.v (Rv.mk (n := n) cs))) (hq : st.tm q = some (.v (Rm.mk (E := E) cs y0 true))) (hx : st.ev x = some (.v k)) (hqd : Nat.beq q d = false)
    (hm : ∀ (w : Go.World) (L : List Adr), E w cs y0 L → L.Nodup → (∀ a ∈ L, w.frozen? ⟨a.1, a.2, none⟩ = false) → Calls P f #[Enc.val (Rv n) cs, .int .i64 k] w fun r w' => r = .returned (.int .i64 k') ∧ E w' cs y1 L ∧ FrG L w w') (hn : Nat.blt d st.n = true) :
    OpOk P S ops ⟨some d, .call { callee := .value (.func f), args := #[.tmp t, x], argTypes := ts }, T, pos, aft, none⟩ (t :: q :: opT x) [] [(d, some (.v k')), (q, some (.v (Rm.mk (E := E) cs y1 true)))] [] st := by
  intro st1 hag G w a hr K Q hK
  have hd : d < st1.n := by rw [hag.n]; simpa using hn
  have hqd' : q ≠ d := by intro e; subst e; simp at hqd
  unfold stepO
  rw [if_pos (by simp [Region.wanted])]
  refine .inl ?_
  unfold Oper.wp
  rw [call_run (xs := [.tmp t, x]) hB]
  simp only [Oper.upon]
  have h1 := hr.tmps t
  rw [hag.tm t (by simp), ht] at h1
  obtain ⟨cs', ⟨e1, _⟩, e2⟩ := h1
  have e1' : cs' = cs := e1
  subst e1'
  have e3 : a.eval (.tmp t) = Enc.val (Rv n) cs' := e2
  have e4 := RelV.int (hr.at hag hx fun t ht => by simp [ht])
  have h3 := hr.tmps q
  rw [hag.tm q (by simp), hq] at h3
  obtain ⟨ds, ⟨d1, d2⟩, d3⟩ := h3
  obtain ⟨L, l1, l2⟩ := d2 rfl
  have hc := hm w L l1 l2.1 (fun a ha => (l2.2 a ha).2.2)
  refine Calls.mono (by simpa [e3, e4] using hc) ?_
  rintro e w' ⟨rfl, g1, g2⟩
  obtain ⟨k1, k2, k3⟩ := hr.frL g2 l2
  refine hK _ w' G ⟨hr.defers, by show (a.tmps.setIfInBounds d _).size = _; simp [hr.size], fun r => ?_, k2⟩ (k3 S)
  show RelT _ _ _ (orr (lk [(d, some (.v k')), (q, some (.v (Rm.mk (E := E) cs' y1 true)))] r) (st1.tm r)) ((a.tmps.setIfInBounds d _).getD r undef)
  rw [getD_set _ _ _ _ (by rw [hr.size]; exact hd)]
  simp only [lk]
  by_cases er : r = d
  · subst er
    rw [if_pos rfl, if_pos rfl]
    exact ⟨_, rfl, rfl⟩
  · rw [if_neg er, if_neg er]
    by_cases eq : r = q
    · subst eq
      rw [if_pos rfl]
      refine ⟨ds, ⟨d1, fun _ => ⟨L, g1, l2.1, fun a ha => ⟨(l2.2 a ha).1, ESt.has g1 a ha, ?_⟩⟩⟩, d3⟩
      obtain ⟨v, hv⟩ := (l2.2 a ha).2.1
      exact (g2.fz a.1 a.2 (cl_lt hv)).trans (l2.2 a ha).2.2
    · rw [if_neg eq]
      exact k1 r eq
/-! ### Calls that make -/
open Classical in
noncomputable def Gh.take (G : Gh) (s : Nat) (L : List Adr) : Gh := ⟨fun b i => if (b, i) ∈ L then some (.tmp s, []) else G.own b i, G.hdr⟩
theorem take_lt {G : Gh} {s : Nat} {w w' : Go.World} {L : List Adr} (hF : Fresh w w' L) {b i : Nat} (h : b < w.heap.size) : (G.take s L).own b i = G.own b i := by
  unfold Gh.take
  exact if_neg fun hm => by have := hF.new _ hm; simp at this; omega
theorem RelSt.take {G : Gh} {w w' : Go.World} {a : Act} {s : Nat} {L : List Adr} (f : FrG [] w w') (hF : Fresh w w' L) (h : RelSt G w a st) : RelSt (G.take s L) w' a st ∧ ∀ S, Keep S G w (G.take s L) w' := by
  have hc : ∀ b i v, cl w b i = some v → cl w' b i = some v := fun b i v hv => by rw [f.cell b i (cl_lt hv) (by simp)]; exact hv
  have hz : ∀ b i v, cl w b i = some v → fz w' b i = fz w b i := fun b i v hv => f.fz b i (cl_lt hv)
  have hg : ∀ b i v, cl w b i = some v → (G.take s L).own b i = G.own b i := fun b i v hv => take_lt hF (cl_lt hv)
  have hs : Sh G w (G.take s L) w' := fun b i v h1 h2 => ⟨by rw [hg b i v h2]; exact h1, hc b i v h2⟩
  have ho : ∀ ω, Ow G w ω (G.take s L) w' ω never := fun ω b i π v _ h1 h2 => ⟨by rw [hg b i v h2]; exact h1, hc b i v h2, fun hf => (hz b i v h2).trans hf⟩
  refine ⟨⟨h.defers, h.size, fun t => (h.tmps t).mono hs (ho _) (fun _ _ _ h => h), fun o => ?_⟩, fun S => ⟨f.os, f.tape, f.output, f.size, fun b i v _ hv => ⟨hg b i v hv, hc b i v hv, hz b i v hv⟩, fun b hb _ => f.block b hb (by simp), fun _ _ _ h => h⟩⟩
  obtain ⟨T', hT⟩ := Obj.refs_all (st.ob o)
  exact (h.objs o).pres hs (fun _ _ _ h => h) hT ⟨rfl, fun b _ hb => ⟨f.block b hb (by simp), fun i h => by rw [take_lt hF hb]; exact h⟩, ho _⟩
/-- What a call that makes a deep value, and a word of truth beside it, leaves. -/
theorem take_rm {G : Gh} {w w' : Go.World} {a : Act} {s : Nat} {L : List Adr} {α : Type} [Enc α] [Plain α] {E : EPred α} [ESt E] {cs : List Value} {y0 : α} {b : Bool} {av : AV} {u : Value} (hsd : s ≠ d) (hd : d < st.n) (f : FrG [] w w') (hF : Fresh w w' L) (hE : E w' cs y0 L) (h : RelSt G w a st) (hs : st.tm s = some (.v b))
    (hv : RelV (G.take s L) w' (.tmp d, []) av u) :
    RelSt (G.take s L) w' (a.put (some d) u) (st.upd [(d, some av), (s, some (.v (Rm.mk (E := E) cs y0 true)))] []) ∧ ∀ S, Keep S G w (G.take s L) w' := by
  obtain ⟨h1, h2⟩ := h.take (s := s) f hF
  refine ⟨⟨h1.defers, by show (a.tmps.setIfInBounds d _).size = _; simp [h1.size], fun r => ?_, h1.objs⟩, h2⟩
  show RelT _ _ _ (orr (lk [(d, some av), (s, some (.v (Rm.mk (E := E) cs y0 true)))] r) (st.tm r)) ((a.tmps.setIfInBounds d _).getD r undef)
  rw [getD_set _ _ _ _ (by rw [h1.size]; exact hd)]
  simp only [lk]
  by_cases er : r = d
  · subst er
    rw [if_pos rfl, if_pos rfl]
    exact hv
  · rw [if_neg er, if_neg er]
    by_cases eq : r = s
    · subst eq
      rw [if_pos rfl]
      have hb := h.tmps r
      rw [hs] at hb
      have e2 : a.tmps.getD r undef = .bool b := RelV.bool hb
      refine ⟨[.bool b], ⟨⟨_, rfl, rfl⟩, fun _ => ⟨L, hE, hF.nd, fun p hp => ⟨⟨[], ?_⟩, ESt.has hE p hp, hF.fz p hp⟩⟩⟩, by rw [e2]; rfl⟩
      show (G.take r L).own p.1 p.2 = _
      unfold Gh.take
      exact if_pos hp
    · rw [if_neg eq]
      exact h1.tmps r
theorem calls_deepX {f : FuncId} {args : List AV} {α β : Type} [Enc β] {E : EPred α} {dd : α → β} {y0 : α} (hd : Deep E dd) (h : CtP P f args (.v (dd y0))) {w : Go.World} {vs : List Value} (ha : RelAs Gn w 0 args vs) :
    Calls P f vs.toArray w fun e w' => ∃ cs L, e = .returned (Enc.val β cs) ∧ E w' cs y0 L ∧ Fresh w w' L ∧ FrG [] w w' ∧ cs.length = Enc.size β ∧ ∀ v ∈ cs, v.oneCell' = true :=
  (h Gn w vs ha fun o => rfl).mono fun e w' ⟨r, h', v, G', e1, ⟨e2, _⟩, e3, _, e5⟩ => by
    subst e2
    obtain ⟨cs, c1, c2⟩ := e3
    obtain ⟨L, l1, l2⟩ := hd c1
    exact ⟨cs, L, by rw [e1, c2], l1, l2.fresh e5, keep_frg e5, Enc.len c1, Enc.one c1⟩
theorem calls_deepBX {f : FuncId} {args : List AV} {α β : Type} [Enc β] {E : EPred α} {dd : α → β} {y0 : α} {b : Bool} (hd : Deep E dd) (h : CtP P f args (.tup [.v (dd y0), .v b])) {w : Go.World} {vs : List Value} (ha : RelAs Gn w 0 args vs) :
    Calls P f vs.toArray w fun e w' => ∃ cs L, e = .returned (.tuple #[Enc.val β cs, .bool b]) ∧ E w' cs y0 L ∧ Fresh w w' L ∧ FrG [] w w' ∧ cs.length = Enc.size β ∧ ∀ v ∈ cs, v.oneCell' = true :=
  (h Gn w vs ha fun o => rfl).mono fun e w' ⟨r, h', v, G', e1, ⟨e2, _⟩, e3, _, e5⟩ => by
    subst e2
    obtain ⟨us, rfl, u1, r1, rfl, ⟨cs, c1, rfl⟩, u2, r2, rfl, ⟨c2, c3, rfl⟩, rfl⟩ := e3
    obtain ⟨L, l1, l2⟩ := hd c1
    exact ⟨cs, L, by rw [e1, show c2 = [_] from c3]; rfl, l1, l2.sub.fresh e5, keep_frg e5, Enc.len c1, Enc.one c1⟩
/-- A call that makes a deep value: its words are in `d`, its memory in `s`. -/
theorem awpOps_deep {l : List Oper} {Q : St → Prop} {f : FuncId} {xs : List Operand} {avs : List AV} {rt : List Nat} {ts : Array TypeId} {α β : Type} [Enc α] [Plain α] [Enc β] {E : EPred α} [ESt E] {dd : α → β} {y0 : α} {b : Bool} (s n : Nat) (hB : fnB P f = true) (ha : XArgs st xs avs rt) (hd : Deep E dd) (h : CtP P f avs (.v (dd y0)))
    (hs : st.tm s = some (.v b)) (hsd : Nat.beq s d = false) (hn : Nat.blt d st.n = true) (hag : Enc.agg β = Nat.ble 1 n) (hsz : Enc.size β = n + 1)
    (k : ∀ cs, awpOps P S ops l Q (st.upd [(d, some (.v (Rv.mk (n := n) cs))), (s, some (.v (Rm.mk (E := E) cs y0 true)))] [])) :
    awpOps P S ops (⟨some d, .call { callee := .value (.func f), args := xs.toArray, argTypes := ts }, T, pos, aft, none⟩ :: l) Q st := by
  intro G w a hr Q' hQ
  have hd' : d < st.n := by simpa using hn
  have hsd' : s ≠ d := by intro e; subst e; simp at hsd
  refine stepO_cons ?_
  unfold stepO
  rw [if_pos (by simp [Region.wanted])]
  refine .inl ?_
  unfold Oper.wp
  rw [call_run hB]
  simp only [Oper.upon]
  refine (calls_deepX (E := E) (dd := dd) (y0 := y0) hd h (ha.rel hr (Agree.refl rt [] st) 0 fun _ h => h)).mono ?_
  rintro e w' ⟨cs, L, rfl, g1, g2, g3, g4, g5⟩
  obtain ⟨k1, k2⟩ := take_rm (d := d) (av := .v (Rv.mk (n := n) cs)) (u := Enc.val β cs) hsd' hd' g3 g2 g1 hr hs ⟨cs, ⟨rfl, by rw [← hsz]; exact g4, g5⟩, by unfold Enc.val; rw [hag]; rfl⟩
  exact k cs _ w' _ k1 Q' fun a'' w'' G'' st'' r1 r2 r3 => hQ a'' w'' G'' st'' r1 ((k2 S).trans r2) r3
theorem awpOps_deepB {l : List Oper} {Q : St → Prop} {f : FuncId} {xs : List Operand} {avs : List AV} {rt : List Nat} {ts : Array TypeId} {α β : Type} [Enc α] [Plain α] [Enc β] {E : EPred α} [ESt E] {dd : α → β} {y0 : α} {b ok : Bool} (s n : Nat) (hB : fnB P f = true) (ha : XArgs st xs avs rt) (hd : Deep E dd) (h : CtP P f avs (.tup [.v (dd y0), .v ok]))
    (hs : st.tm s = some (.v b)) (hsd : Nat.beq s d = false) (hn : Nat.blt d st.n = true) (hag : Enc.agg β = Nat.ble 1 n) (hsz : Enc.size β = n + 1)
    (k : ∀ cs, awpOps P S ops l Q (st.upd [(d, some (.tup [.v (Rv.mk (n := n) cs), .v ok])), (s, some (.v (Rm.mk (E := E) cs y0 true)))] [])) :
    awpOps P S ops (⟨some d, .call { callee := .value (.func f), args := xs.toArray, argTypes := ts }, T, pos, aft, none⟩ :: l) Q st := by
  intro G w a hr Q' hQ
  have hd' : d < st.n := by simpa using hn
  have hsd' : s ≠ d := by intro e; subst e; simp at hsd
  refine stepO_cons ?_
  unfold stepO
  rw [if_pos (by simp [Region.wanted])]
  refine .inl ?_
  unfold Oper.wp
  rw [call_run hB]
  simp only [Oper.upon]
  refine (calls_deepBX (E := E) (dd := dd) (y0 := y0) hd h (ha.rel hr (Agree.refl rt [] st) 0 fun _ h => h)).mono ?_
  rintro e w' ⟨cs, L, rfl, g1, g2, g3, g4, g5⟩
  obtain ⟨k1, k2⟩ := take_rm (d := d) (av := .tup [.v (Rv.mk (n := n) cs), .v ok]) (u := .tuple #[Enc.val β cs, .bool ok]) hsd' hd' g3 g2 g1 hr hs ⟨[_, _], rfl, _, _, rfl, ⟨cs, ⟨rfl, by rw [← hsz]; exact g4, g5⟩, by unfold Enc.val; rw [hag]; rfl⟩, _, _, rfl, ⟨[.bool ok], rfl, rfl⟩, rfl⟩
  exact k cs _ w' _ k1 Q' fun a'' w'' G'' st'' r1 r2 r3 => hQ a'' w'' G'' st'' r1 ((k2 S).trans r2) r3
/-! ### Deep results, read as values -/
open Classical in
noncomputable def Gh.give (G : Gh) : Gh := ⟨fun b i => if ∃ π, G.own b i = some (.ret, π) then none else G.own b i, G.hdr⟩
theorem ct_plain {f : FuncId} {args : List AV} {α β : Type} [Enc α] [Plain α] [Enc β] {E : EPred α} [ESt E] {dd : α → β} {y0 : α} (hd : Deep E dd) (hag : Enc.agg β = Enc.agg α) (h : CtP P f args (.v (dd y0))) : CtP P f args (.v y0) := fun G w vs h1 h2 =>
  (h G w vs h1 h2).mono fun e w' ⟨r, h', v, G', e1, ⟨e2, e2'⟩, e3, e4, e5⟩ => by
    subst e2 e2'
    obtain ⟨cs, c1, c2⟩ := e3
    obtain ⟨L, l1, l2⟩ := hd c1
    refine ⟨_, noObj, v, G'.give, e1, ⟨rfl, rfl⟩, ⟨cs, ?_, ?_⟩, fun o => e4 o, e5.trans ⟨rfl, rfl, rfl, Nat.le_refl _, fun b i v ho _ => ⟨?_, by assumption, rfl⟩, fun _ _ _ => rfl, fun _ _ _ h => h⟩⟩
    · have := ESt.rd (E := E) (G := G'.give) (fun a ha => by
        obtain ⟨⟨π, k1⟩, _⟩ := l2.2 a ha
        unfold Gh.give
        exact if_pos ⟨_, k1⟩) l1
      exact Plain.mono (Sh.refl _ _) this
    · rw [c2]; unfold Enc.val; rw [hag]
    · unfold Gh.give
      refine if_neg ?_
      rintro ⟨π, k⟩
      rcases ho with ho | ⟨π', ho⟩ <;> (rw [ho] at k; simp at k)
end Go.Wt

/- Facts of the types of deep values, each by computation. -/
set_option linter.unusedVariables false
namespace Go.Proofs.YtmhmeppocbcmeaaGreat
open Go Go.Wt
theorem ty23_DListNodD : TyOk Tryz.prog 23 (DList NodD) := ⟨by kernel_rfl⟩
theorem ty24_DListVotD : TyOk Tryz.prog 24 (DList VotD) := ⟨by kernel_rfl⟩
theorem ty26_Rv3 : TyOk Tryz.prog 26 (Rv 3) := ⟨by kernel_rfl⟩
theorem ty26_WrldD : TyOk Tryz.prog 26 (WrldD) := ⟨by kernel_rfl⟩
theorem ty26_WrldE : TyOk Tryz.prog 26 (WrldE) := ⟨by kernel_rfl⟩
theorem ty27_DListItm : TyOk Tryz.prog 27 (DList Itm) := ⟨by kernel_rfl⟩
theorem ty38_VotD : TyOk Tryz.prog 38 (VotD) := ⟨by kernel_rfl⟩
theorem ty77_EvtD : TyOk Tryz.prog 77 (EvtD) := ⟨by kernel_rfl⟩
theorem ty77_Rv7 : TyOk Tryz.prog 77 (Rv 7) := ⟨by kernel_rfl⟩
theorem ty90_NodD : TyOk Tryz.prog 90 (NodD) := ⟨by kernel_rfl⟩
theorem z26_Rv3 : ZeroOk Tryz.prog 26 Rv.z3 := zero_mk (by kernel_rfl)
theorem z26_WrldD : ZeroOk Tryz.prog 26 WrldD.zero := zero_mk (by kernel_rfl)
theorem z26_WrldE : ZeroOk Tryz.prog 26 WrldE.zero := zero_mk (by kernel_rfl)
theorem z38_VotD : ZeroOk Tryz.prog 38 VotD.zero := zero_mk (by kernel_rfl)
theorem z77_EvtD : ZeroOk Tryz.prog 77 EvtD.zero := zero_mk (by kernel_rfl)
theorem z77_Rv7 : ZeroOk Tryz.prog 77 Rv.z7 := zero_mk (by kernel_rfl)
theorem z90_NodD : ZeroOk Tryz.prog 90 NodD.zero := zero_mk (by kernel_rfl)
theorem f26_0_WrldD : FldOk Tryz.prog 26 0 WrldD.epoch (fun x y => { x with epoch := y }) 0 [0] := ⟨WrldD.l0, by kernel_rfl⟩
theorem f26_0_WrldE : FldOk Tryz.prog 26 0 WrldE.epoch (fun x y => { x with epoch := y }) 0 [0] := ⟨WrldE.l0, by kernel_rfl⟩
theorem f26_1_WrldD : FldOk Tryz.prog 26 1 WrldD.nodes (fun x y => { x with nodes := y }) 1 [1, 0] := ⟨WrldD.l1, by kernel_rfl⟩
theorem f26_1_WrldE : FldOk Tryz.prog 26 1 WrldE.nodes (fun x y => { x with nodes := y }) 1 [1, 0] := ⟨WrldE.l1, by kernel_rfl⟩
theorem f26_2_WrldD : FldOk Tryz.prog 26 2 WrldD.log (fun x y => { x with log := y }) 2 [1, 1, 0] := ⟨WrldD.l2, by kernel_rfl⟩
theorem f26_2_WrldE : FldOk Tryz.prog 26 2 WrldE.log (fun x y => { x with log := y }) 2 [1, 1, 0] := ⟨WrldE.l2, by kernel_rfl⟩
theorem f26_3_WrldD : FldOk Tryz.prog 26 3 WrldD.bad (fun x y => { x with bad := y }) 3 [1, 1, 1] := ⟨WrldD.l3, by kernel_rfl⟩
theorem f26_3_WrldE : FldOk Tryz.prog 26 3 WrldE.bad (fun x y => { x with bad := y }) 3 [1, 1, 1] := ⟨WrldE.l3, by kernel_rfl⟩
theorem f38_0_VotD : FldOk Tryz.prog 38 0 VotD.by_ (fun x y => { x with by_ := y }) 0 [0] := ⟨VotD.l0, by kernel_rfl⟩
theorem f38_1_VotD : FldOk Tryz.prog 38 1 VotD.chain (fun x y => { x with chain := y }) 1 [1] := ⟨VotD.l1, by kernel_rfl⟩
theorem f77_0_EvtD : FldOk Tryz.prog 77 0 EvtD.kind (fun x y => { x with kind := y }) 0 [0] := ⟨EvtD.l0, by kernel_rfl⟩
theorem f77_1_EvtD : FldOk Tryz.prog 77 1 EvtD.a (fun x y => { x with a := y }) 1 [1, 0] := ⟨EvtD.l1, by kernel_rfl⟩
theorem f77_2_EvtD : FldOk Tryz.prog 77 2 EvtD.b (fun x y => { x with b := y }) 2 [1, 1, 0] := ⟨EvtD.l2, by kernel_rfl⟩
theorem f77_3_EvtD : FldOk Tryz.prog 77 3 EvtD.pay (fun x y => { x with pay := y }) 3 [1, 1, 1, 0] := ⟨EvtD.l3, by kernel_rfl⟩
theorem f77_4_EvtD : FldOk Tryz.prog 77 4 EvtD.vote (fun x y => { x with vote := y }) 6 [1, 1, 1, 1] := ⟨EvtD.l4, by kernel_rfl⟩
theorem f90_0_NodD : FldOk Tryz.prog 90 0 NodD.id (fun x y => { x with id := y }) 0 [0] := ⟨NodD.l0, by kernel_rfl⟩
theorem f90_1_NodD : FldOk Tryz.prog 90 1 NodD.epoch (fun x y => { x with epoch := y }) 1 [1, 0] := ⟨NodD.l1, by kernel_rfl⟩
theorem f90_2_NodD : FldOk Tryz.prog 90 2 NodD.voted (fun x y => { x with voted := y }) 2 [1, 1, 0] := ⟨NodD.l2, by kernel_rfl⟩
theorem f90_3_NodD : FldOk Tryz.prog 90 3 NodD.seen (fun x y => { x with seen := y }) 3 [1, 1, 1] := ⟨NodD.l3, by kernel_rfl⟩
theorem sl23_NodD : SlOk Tryz.prog 23 90 48 (NodD) := ⟨by kernel_rfl, ty90_NodD⟩
theorem sl24_VotD : SlOk Tryz.prog 24 38 32 (VotD) := ⟨by kernel_rfl, ty38_VotD⟩
theorem sl45_EvtD : SlOk Tryz.prog 45 77 80 (EvtD) := ⟨by kernel_rfl, ty77_EvtD⟩
end Go.Proofs.YtmhmeppocbcmeaaGreat

/- The exact laws: values are made, each with memory of its own at every depth. -/
set_option linter.unusedVariables false
set_option linter.unusedSimpArgs false
namespace Go.Proofs.YtmhmeppocbcmeaaGreat
open Go Go.Wt
abbrev BV (v : Vote) : Prop := v.chain.length ≤ 1048576
abbrev BN (n : Nod) : Prop := n.seen.length ≤ 1048576 ∧ ∀ v ∈ n.seen, BV v
abbrev BE (e : Evt) : Prop := BV e.vote
structure BW (w : Wrld) : Prop where
  nl : w.nodes.length ≤ 1048576
  nn : ∀ n ∈ w.nodes, BN n
  ll : w.log.length ≤ 1048576
  lv : ∀ v ∈ w.log, BV v
theorem toItemS_d (l : List Itm) (hl : l.length ≤ 1048576) : CtP Tryz.prog 139 [.v l] (.v (DList.mk l true)) := ct_own (Nat.le_trans hl (by decide)) (toItemS_ct l hl)
theorem toPayS_d (l : List Pay) (hl : l.length ≤ 1048576) : CtP Tryz.prog 27 [.v l] (.v (DList.mk l true)) := ct_own (Nat.le_trans hl (by decide)) (toPayS_ct l hl)
theorem toVote_d (x : Vote) (hx : BV x) : CtP Tryz.prog 87 [.v x] (.v x.d) := by
  refine Ct.intro Tryz.func87 rfl rfl ?_
  refine aS (aR ?_)
  refine oC (op_box (o := 0) ty70 rfl (Conv.of rfl) rfl rfl) ?_
  refine oC (oX (o := 1) z38_VotD rfl rfl) ?_
  refine oN ?_
  refine aS (aR ?_)
  refine oC (oX (o := 2) z38_VotD rfl rfl) ?_
  refine oN ?_
  refine aS (aR ?_)
  refine oC (oF f70_0 rfl rfl) ?_
  refine oC (oD ty3 rfl rfl rfl) ?_
  refine oC (oF f38_0_VotD rfl rfl) ?_
  refine oC (op_st ty3 rfl rfl (Conv.of rfl) rfl) ?_
  refine oN ?_
  refine aS (aR ?_)
  refine oC (oF f70_1 rfl rfl) ?_
  refine oC (oD ty68 rfl rfl rfl) ?_
  refine oC (oL fb139 (.cons rfl (Conv.of rfl) (.nil _)) (toItemS_d _ hx) (aK rfl rfl aK0) rfl rfl) ?_
  refine oC (oF f38_1_VotD rfl rfl) ?_
  refine oC (op_stm ty27_DListItm rfl rfl rfl) ?_
  refine oN ?_
  refine aS (aR ?_)
  refine oC (op_ldm ty38_VotD rfl rfl rfl) ?_
  refine oC (op_stm ty38_VotD rfl rfl rfl) ?_
  refine oN ?_
  refine aT ?_
  repeat first | refine rS ?_ | refine rB ?_
  exact ⟨_, _, res1C (ol := []) ty38_VotD rfl rfl (by intro o ho; cases ho) trivial noS, rfl, rfl⟩
set_option maxHeartbeats 1000000 in
theorem toVoteS_a (l : List Vote) (hl : l.length ≤ 1048576) (hb : ∀ x ∈ l, BV x) : Ct Tryz.prog 82 [.v l] noObj (fun r1 h1 => r1 = .v (NRef.ref 0) ∧ h1 = obs [(0, .arr (l.map Vote.d))]) := by
  refine Ct.intro Tryz.func82 rfl rfl ?_
  refine aS (aR ?_)
  refine oC (oA rfl (Conv.of rfl) rfl) ?_
  refine oN ?_
  refine aS (aR ?_)
  refine oC (oM rfl (Conv.of rfl) rfl) ?_
  refine oC (oE sl53 rfl rfl) ?_
  refine oC (op_mkD (o := 0) sl24_VotD z38_VotD rfl rfl (by omega) (by omega) (by omega) rfl rfl) ?_
  refine oC (oA rfl (Conv.nr) rfl) ?_
  refine oN ?_
  refine aS (aS (aR ?_))
  refine oC (oA rfl (Conv.of rfl) rfl) ?_
  refine oN ?_
  refine aB ?_
  refine awp_loop' (fun n_ s => ∃ (k : Nat), ∃ (hn : n_ + k = l.length), s = mkSt 23 [(0, .v l), (3, .v (NRef.ref 0)), (4, .v (k : Int))] [(0, .arr ((l.take k).map Vote.d ++ List.replicate (l.length - k) VotD.zero))]) (l.length) ⟨0, by omega, rfl⟩ (Le.mk rfl (tle rfl (rfl) rfl (tlb rfl rfl rfl (tle rfl (rfl) rfl tln))) (olk (by rfl) (by exact obOkD _) oln) noS) ?_
  rintro n_ s ⟨k, hn, rfl⟩
  refine aS (aS (aR ?_))
  refine oC (oM rfl (Conv.of rfl) rfl) ?_
  refine oC (oM rfl (Conv.of rfl) rfl) ?_
  refine oC (oE sl53 rfl rfl) ?_
  refine oC (oLt rfl rfl rfl) ?_
  refine oN ?_
  refine aC rfl (fun h => ?_) (fun h => ?_)
  · have hlt : k < l.length := by simpa using h
    have hx : l[k]? = some l[k] := List.getElem?_eq_getElem hlt
    have hbx := hb _ (List.getElem_mem hlt)
    generalize l[k] = x at hx hbx
    have hx' : l[(k : Int).toNat]? = some x := hx
    have hy : ((l.take k).map Vote.d ++ List.replicate (l.length - k) VotD.zero)[(k : Int).toNat]? = some VotD.zero := fillm_at hlt
    refine aW ?_
    refine aS (aB ?_)
    refine aR ?_
    refine oC (oM rfl (Conv.of rfl) rfl) ?_
    refine oC (oM rfl (Conv.of rfl) rfl) ?_
    refine oC (oM rfl (Conv.of rfl) rfl) ?_
    refine oC (oM rfl (Conv.of rfl) rfl) ?_
    refine oC (op_ix sl53 rfl rfl rfl (by omega) hx') ?_
    refine oC (oDR ty70 rfl rfl) ?_
    refine oC (oL fb87 (.cons rfl (Conv.of rfl) (.nil _)) (toVote_d _ hbx) (aK rfl rfl aK0) rfl rfl) ?_
    refine oC (op_ixA sl24_VotD rfl rfl rfl rfl ⟨by omega, by simp; omega⟩) ?_
    refine oC (op_stme ty38_VotD rfl rfl rfl hy) ?_
    refine oN ?_
    refine aR ?_
    refine oC (oM rfl (Conv.of rfl) rfl) ?_
    refine oC (oP rfl rfl rfl (by omega)) ?_
    refine oC (oA rfl (Conv.of rfl) rfl) ?_
    refine oN ?_
    repeat first | refine nS ?_ | refine nB ?_
    exact ⟨n_ - 1, _, by omega, ⟨k + 1, by omega, rfl⟩, Le.mk rfl (tle rfl (rfl) rfl (tlb rfl rfl rfl (tle rfl (rfl) rfl tln))) (olk (by (first | (simp; done) | exact congrArg Wt.Obj.arr (fillm_set hx))) (by exact obOkD _) oln) noS⟩
  · refine aE ?_
    repeat refine ex_seq ?_
    refine eB ?_
    have hk : l.length ≤ k := by simpa using h
    refine aS (aR ?_)
    refine oC (oM rfl (Conv.of rfl) rfl) ?_
    refine oC (oA rfl (Conv.of rfl) rfl) ?_
    refine oN ?_
    refine aT ?_
    repeat first | refine rS ?_ | refine rB ?_
    rw [fillm_end hk]
    refine ⟨_, _, res1 (ol := [(0, .arr (l.map Vote.d))]) (.v rfl (Conv.of rfl)) (fun o ho => ?_) (olk rfl (obOkD _) oln) noS, rfl, rfl⟩
    have : o = 0 := by simpa using (show o ∈ [0] from ho)
    subst this; rfl
theorem toVoteS_d (l : List Vote) (hl : l.length ≤ 1048576) (hb : ∀ x ∈ l, BV x) : CtP Tryz.prog 82 [.v l] (.v (DList.mk (l.map Vote.d) true)) := ct_own (by rw [List.length_map]; exact Nat.le_trans hl (by decide)) (toVoteS_a l hl hb)
theorem toNode_d (x : Nod) (hx : BN x) : CtP Tryz.prog 135 [.v x] (.v x.d) := by
  refine Ct.intro Tryz.func135 rfl rfl ?_
  refine aS (aR ?_)
  refine oC (op_box (o := 0) ty160 rfl (Conv.of rfl) rfl rfl) ?_
  refine oC (oX (o := 1) z90_NodD rfl rfl) ?_
  refine oN ?_
  refine aS (aR ?_)
  refine oC (oX (o := 2) z90_NodD rfl rfl) ?_
  refine oN ?_
  refine aS (aR ?_)
  refine oC (oF f160_0 rfl rfl) ?_
  refine oC (oD ty3 rfl rfl rfl) ?_
  refine oC (oF f90_0_NodD rfl rfl) ?_
  refine oC (op_st ty3 rfl rfl (Conv.of rfl) rfl) ?_
  refine oN ?_
  refine aS (aR ?_)
  refine oC (oF f160_1 rfl rfl) ?_
  refine oC (oD ty3 rfl rfl rfl) ?_
  refine oC (oF f90_1_NodD rfl rfl) ?_
  refine oC (op_st ty3 rfl rfl (Conv.of rfl) rfl) ?_
  refine oN ?_
  refine aS (aR ?_)
  refine oC (oF f160_2 rfl rfl) ?_
  refine oC (oD ty3 rfl rfl rfl) ?_
  refine oC (oF f90_2_NodD rfl rfl) ?_
  refine oC (op_st ty3 rfl rfl (Conv.of rfl) rfl) ?_
  refine oN ?_
  refine aS (aR ?_)
  refine oC (oF f160_3 rfl rfl) ?_
  refine oC (oD ty53 rfl rfl rfl) ?_
  refine oC (oL fb82 (.cons rfl (Conv.of rfl) (.nil _)) (toVoteS_d _ hx.1 hx.2) (aK rfl rfl aK0) rfl rfl) ?_
  refine oC (oF f90_3_NodD rfl rfl) ?_
  refine oC (op_stm ty24_DListVotD rfl rfl rfl) ?_
  refine oN ?_
  refine aS (aR ?_)
  refine oC (op_ldm ty90_NodD rfl rfl rfl) ?_
  refine oC (op_stm ty90_NodD rfl rfl rfl) ?_
  refine oN ?_
  refine aT ?_
  repeat first | refine rS ?_ | refine rB ?_
  exact ⟨_, _, res1C (ol := []) ty90_NodD rfl rfl (by intro o ho; cases ho) trivial noS, rfl, rfl⟩
theorem toEvent_d (x : Evt) (hx : BE x) : CtP Tryz.prog 33 [.v x] (.v x.d) := by
  refine Ct.intro Tryz.func33 rfl rfl ?_
  refine aS (aR ?_)
  refine oC (op_box (o := 0) ty72 rfl (Conv.of rfl) rfl rfl) ?_
  refine oC (oX (o := 1) z77_EvtD rfl rfl) ?_
  refine oN ?_
  refine aS (aR ?_)
  refine oC (oX (o := 2) z77_EvtD rfl rfl) ?_
  refine oN ?_
  refine aS (aR ?_)
  refine oC (oF f72_0 rfl rfl) ?_
  refine oC (oD ty3 rfl rfl rfl) ?_
  refine oC (oF f77_0_EvtD rfl rfl) ?_
  refine oC (op_st ty3 rfl rfl (Conv.of rfl) rfl) ?_
  refine oN ?_
  refine aS (aR ?_)
  refine oC (oF f72_1 rfl rfl) ?_
  refine oC (oD ty3 rfl rfl rfl) ?_
  refine oC (oF f77_1_EvtD rfl rfl) ?_
  refine oC (op_st ty3 rfl rfl (Conv.of rfl) rfl) ?_
  refine oN ?_
  refine aS (aR ?_)
  refine oC (oF f72_2 rfl rfl) ?_
  refine oC (oD ty3 rfl rfl rfl) ?_
  refine oC (oF f77_2_EvtD rfl rfl) ?_
  refine oC (op_st ty3 rfl rfl (Conv.of rfl) rfl) ?_
  refine oN ?_
  refine aS (aR ?_)
  refine oC (oF f72_3 rfl rfl) ?_
  refine oC (oD ty67 rfl rfl rfl) ?_
  refine oC (oL fb83 (.cons rfl (Conv.of rfl) (.nil _)) (toPay_ct _) (aK rfl rfl aK0) rfl rfl) ?_
  refine oC (oF f77_3_EvtD rfl rfl) ?_
  refine oC (op_st ty75 rfl rfl (Conv.of rfl) rfl) ?_
  refine oN ?_
  refine aS (aR ?_)
  refine oC (oF f72_4 rfl rfl) ?_
  refine oC (oD ty70 rfl rfl rfl) ?_
  refine oC (oL fb87 (.cons rfl (Conv.of rfl) (.nil _)) (toVote_d _ hx) (aK rfl rfl aK0) rfl rfl) ?_
  refine oC (oF f77_4_EvtD rfl rfl) ?_
  refine oC (op_stm ty38_VotD rfl rfl rfl) ?_
  refine oN ?_
  refine aS (aR ?_)
  refine oC (op_ldm ty77_EvtD rfl rfl rfl) ?_
  refine oC (op_stm ty77_EvtD rfl rfl rfl) ?_
  refine oN ?_
  refine aT ?_
  repeat first | refine rS ?_ | refine rB ?_
  exact ⟨_, _, res1C (ol := []) ty77_EvtD rfl rfl (by intro o ho; cases ho) trivial noS, rfl, rfl⟩
set_option maxHeartbeats 1000000 in
theorem toNodeS_a (l : List Nod) (hl : l.length ≤ 1048576) (hb : ∀ x ∈ l, BN x) : Ct Tryz.prog 81 [.v l] noObj (fun r1 h1 => r1 = .v (NRef.ref 0) ∧ h1 = obs [(0, .arr (l.map Nod.d))]) := by
  refine Ct.intro Tryz.func81 rfl rfl ?_
  refine aS (aR ?_)
  refine oC (oA rfl (Conv.of rfl) rfl) ?_
  refine oN ?_
  refine aS (aR ?_)
  refine oC (oM rfl (Conv.of rfl) rfl) ?_
  refine oC (oE sl52 rfl rfl) ?_
  refine oC (op_mkD (o := 0) sl23_NodD z90_NodD rfl rfl (by omega) (by omega) (by omega) rfl rfl) ?_
  refine oC (oA rfl (Conv.nr) rfl) ?_
  refine oN ?_
  refine aS (aS (aR ?_))
  refine oC (oA rfl (Conv.of rfl) rfl) ?_
  refine oN ?_
  refine aB ?_
  refine awp_loop' (fun n_ s => ∃ (k : Nat), ∃ (hn : n_ + k = l.length), s = mkSt 23 [(0, .v l), (3, .v (NRef.ref 0)), (4, .v (k : Int))] [(0, .arr ((l.take k).map Nod.d ++ List.replicate (l.length - k) NodD.zero))]) (l.length) ⟨0, by omega, rfl⟩ (Le.mk rfl (tle rfl (rfl) rfl (tlb rfl rfl rfl (tle rfl (rfl) rfl tln))) (olk (by rfl) (by exact obOkD _) oln) noS) ?_
  rintro n_ s ⟨k, hn, rfl⟩
  refine aS (aS (aR ?_))
  refine oC (oM rfl (Conv.of rfl) rfl) ?_
  refine oC (oM rfl (Conv.of rfl) rfl) ?_
  refine oC (oE sl52 rfl rfl) ?_
  refine oC (oLt rfl rfl rfl) ?_
  refine oN ?_
  refine aC rfl (fun h => ?_) (fun h => ?_)
  · have hlt : k < l.length := by simpa using h
    have hx : l[k]? = some l[k] := List.getElem?_eq_getElem hlt
    have hbx := hb _ (List.getElem_mem hlt)
    generalize l[k] = x at hx hbx
    have hx' : l[(k : Int).toNat]? = some x := hx
    have hy : ((l.take k).map Nod.d ++ List.replicate (l.length - k) NodD.zero)[(k : Int).toNat]? = some NodD.zero := fillm_at hlt
    refine aW ?_
    refine aS (aB ?_)
    refine aR ?_
    refine oC (oM rfl (Conv.of rfl) rfl) ?_
    refine oC (oM rfl (Conv.of rfl) rfl) ?_
    refine oC (oM rfl (Conv.of rfl) rfl) ?_
    refine oC (oM rfl (Conv.of rfl) rfl) ?_
    refine oC (op_ix sl52 rfl rfl rfl (by omega) hx') ?_
    refine oC (oDR ty160 rfl rfl) ?_
    refine oC (oL fb135 (.cons rfl (Conv.of rfl) (.nil _)) (toNode_d _ hbx) (aK rfl rfl aK0) rfl rfl) ?_
    refine oC (op_ixA sl23_NodD rfl rfl rfl rfl ⟨by omega, by simp; omega⟩) ?_
    refine oC (op_stme ty90_NodD rfl rfl rfl hy) ?_
    refine oN ?_
    refine aR ?_
    refine oC (oM rfl (Conv.of rfl) rfl) ?_
    refine oC (oP rfl rfl rfl (by omega)) ?_
    refine oC (oA rfl (Conv.of rfl) rfl) ?_
    refine oN ?_
    repeat first | refine nS ?_ | refine nB ?_
    exact ⟨n_ - 1, _, by omega, ⟨k + 1, by omega, rfl⟩, Le.mk rfl (tle rfl (rfl) rfl (tlb rfl rfl rfl (tle rfl (rfl) rfl tln))) (olk (by (first | (simp; done) | exact congrArg Wt.Obj.arr (fillm_set hx))) (by exact obOkD _) oln) noS⟩
  · refine aE ?_
    repeat refine ex_seq ?_
    refine eB ?_
    have hk : l.length ≤ k := by simpa using h
    refine aS (aR ?_)
    refine oC (oM rfl (Conv.of rfl) rfl) ?_
    refine oC (oA rfl (Conv.of rfl) rfl) ?_
    refine oN ?_
    refine aT ?_
    repeat first | refine rS ?_ | refine rB ?_
    rw [fillm_end hk]
    refine ⟨_, _, res1 (ol := [(0, .arr (l.map Nod.d))]) (.v rfl (Conv.of rfl)) (fun o ho => ?_) (olk rfl (obOkD _) oln) noS, rfl, rfl⟩
    have : o = 0 := by simpa using (show o ∈ [0] from ho)
    subst this; rfl
theorem toNodeS_d (l : List Nod) (hl : l.length ≤ 1048576) (hb : ∀ x ∈ l, BN x) : CtP Tryz.prog 81 [.v l] (.v (DList.mk (l.map Nod.d) true)) := ct_own (by rw [List.length_map]; exact Nat.le_trans hl (by decide)) (toNodeS_a l hl hb)
set_option maxHeartbeats 1000000 in
theorem toEventS_a (l : List Evt) (hl : l.length ≤ 1048576) (hb : ∀ x ∈ l, BE x) : Ct Tryz.prog 16 [.v l] noObj (fun r1 h1 => r1 = .v (NRef.ref 0) ∧ h1 = obs [(0, .arr (l.map Evt.d))]) := by
  refine Ct.intro Tryz.func16 rfl rfl ?_
  refine aS (aR ?_)
  refine oC (oA rfl (Conv.of rfl) rfl) ?_
  refine oN ?_
  refine aS (aR ?_)
  refine oC (oM rfl (Conv.of rfl) rfl) ?_
  refine oC (oE sl41 rfl rfl) ?_
  refine oC (op_mkD (o := 0) sl45_EvtD z77_EvtD rfl rfl (by omega) (by omega) (by omega) rfl rfl) ?_
  refine oC (oA rfl (Conv.nr) rfl) ?_
  refine oN ?_
  refine aS (aS (aR ?_))
  refine oC (oA rfl (Conv.of rfl) rfl) ?_
  refine oN ?_
  refine aB ?_
  refine awp_loop' (fun n_ s => ∃ (k : Nat), ∃ (hn : n_ + k = l.length), s = mkSt 23 [(0, .v l), (3, .v (NRef.ref 0)), (4, .v (k : Int))] [(0, .arr ((l.take k).map Evt.d ++ List.replicate (l.length - k) EvtD.zero))]) (l.length) ⟨0, by omega, rfl⟩ (Le.mk rfl (tle rfl (rfl) rfl (tlb rfl rfl rfl (tle rfl (rfl) rfl tln))) (olk (by rfl) (by exact obOkD _) oln) noS) ?_
  rintro n_ s ⟨k, hn, rfl⟩
  refine aS (aS (aR ?_))
  refine oC (oM rfl (Conv.of rfl) rfl) ?_
  refine oC (oM rfl (Conv.of rfl) rfl) ?_
  refine oC (oE sl41 rfl rfl) ?_
  refine oC (oLt rfl rfl rfl) ?_
  refine oN ?_
  refine aC rfl (fun h => ?_) (fun h => ?_)
  · have hlt : k < l.length := by simpa using h
    have hx : l[k]? = some l[k] := List.getElem?_eq_getElem hlt
    have hbx := hb _ (List.getElem_mem hlt)
    generalize l[k] = x at hx hbx
    have hx' : l[(k : Int).toNat]? = some x := hx
    have hy : ((l.take k).map Evt.d ++ List.replicate (l.length - k) EvtD.zero)[(k : Int).toNat]? = some EvtD.zero := fillm_at hlt
    refine aW ?_
    refine aS (aB ?_)
    refine aR ?_
    refine oC (oM rfl (Conv.of rfl) rfl) ?_
    refine oC (oM rfl (Conv.of rfl) rfl) ?_
    refine oC (oM rfl (Conv.of rfl) rfl) ?_
    refine oC (oM rfl (Conv.of rfl) rfl) ?_
    refine oC (op_ix sl41 rfl rfl rfl (by omega) hx') ?_
    refine oC (oDR ty72 rfl rfl) ?_
    refine oC (oL fb33 (.cons rfl (Conv.of rfl) (.nil _)) (toEvent_d _ hbx) (aK rfl rfl aK0) rfl rfl) ?_
    refine oC (op_ixA sl45_EvtD rfl rfl rfl rfl ⟨by omega, by simp; omega⟩) ?_
    refine oC (op_stme ty77_EvtD rfl rfl rfl hy) ?_
    refine oN ?_
    refine aR ?_
    refine oC (oM rfl (Conv.of rfl) rfl) ?_
    refine oC (oP rfl rfl rfl (by omega)) ?_
    refine oC (oA rfl (Conv.of rfl) rfl) ?_
    refine oN ?_
    repeat first | refine nS ?_ | refine nB ?_
    exact ⟨n_ - 1, _, by omega, ⟨k + 1, by omega, rfl⟩, Le.mk rfl (tle rfl (rfl) rfl (tlb rfl rfl rfl (tle rfl (rfl) rfl tln))) (olk (by (first | (simp; done) | exact congrArg Wt.Obj.arr (fillm_set hx))) (by exact obOkD _) oln) noS⟩
  · refine aE ?_
    repeat refine ex_seq ?_
    refine eB ?_
    have hk : l.length ≤ k := by simpa using h
    refine aS (aR ?_)
    refine oC (oM rfl (Conv.of rfl) rfl) ?_
    refine oC (oA rfl (Conv.of rfl) rfl) ?_
    refine oN ?_
    refine aT ?_
    repeat first | refine rS ?_ | refine rB ?_
    rw [fillm_end hk]
    refine ⟨_, _, res1 (ol := [(0, .arr (l.map Evt.d))]) (.v rfl (Conv.of rfl)) (fun o ho => ?_) (olk rfl (obOkD _) oln) noS, rfl, rfl⟩
    have : o = 0 := by simpa using (show o ∈ [0] from ho)
    subst this; rfl
theorem toEventS_d (l : List Evt) (hl : l.length ≤ 1048576) (hb : ∀ x ∈ l, BE x) : CtP Tryz.prog 16 [.v l] (.v (DList.mk (l.map Evt.d) true)) := ct_own (by rw [List.length_map]; exact Nat.le_trans hl (by decide)) (toEventS_a l hl hb)
theorem toWorld_d (x : Wrld) (hx : BW x) : CtP Tryz.prog 26 [.v x] (.v x.d) := by
  refine Ct.intro Tryz.func26 rfl rfl ?_
  refine aS (aR ?_)
  refine oC (op_box (o := 0) ty55 rfl (Conv.of rfl) rfl rfl) ?_
  refine oC (oX (o := 1) z26_WrldD rfl rfl) ?_
  refine oN ?_
  refine aS (aR ?_)
  refine oC (oX (o := 2) z26_WrldD rfl rfl) ?_
  refine oN ?_
  refine aS (aR ?_)
  refine oC (oF f55_0 rfl rfl) ?_
  refine oC (oD ty3 rfl rfl rfl) ?_
  refine oC (oF f26_0_WrldD rfl rfl) ?_
  refine oC (op_st ty3 rfl rfl (Conv.of rfl) rfl) ?_
  refine oN ?_
  refine aS (aR ?_)
  refine oC (oF f55_1 rfl rfl) ?_
  refine oC (oD ty52 rfl rfl rfl) ?_
  refine oC (oL fb81 (.cons rfl (Conv.of rfl) (.nil _)) (toNodeS_d _ hx.nl hx.nn) (aK rfl rfl aK0) rfl rfl) ?_
  refine oC (oF f26_1_WrldD rfl rfl) ?_
  refine oC (op_stm ty23_DListNodD rfl rfl rfl) ?_
  refine oN ?_
  refine aS (aR ?_)
  refine oC (oF f55_2 rfl rfl) ?_
  refine oC (oD ty53 rfl rfl rfl) ?_
  refine oC (oL fb82 (.cons rfl (Conv.of rfl) (.nil _)) (toVoteS_d _ hx.ll hx.lv) (aK rfl rfl aK0) rfl rfl) ?_
  refine oC (oF f26_2_WrldD rfl rfl) ?_
  refine oC (op_stm ty24_DListVotD rfl rfl rfl) ?_
  refine oN ?_
  refine aS (aR ?_)
  refine oC (oF f55_3 rfl rfl) ?_
  refine oC (oD ty3 rfl rfl rfl) ?_
  refine oC (oF f26_3_WrldD rfl rfl) ?_
  refine oC (op_st ty3 rfl rfl (Conv.of rfl) rfl) ?_
  refine oN ?_
  refine aS (aR ?_)
  refine oC (op_ldm ty26_WrldD rfl rfl rfl) ?_
  refine oC (op_stm ty26_WrldD rfl rfl rfl) ?_
  refine oN ?_
  refine aT ?_
  repeat first | refine rS ?_ | refine rB ?_
  exact ⟨_, _, res1C (ol := []) ty26_WrldD rfl rfl (by intro o ho; cases ho) trivial noS, rfl, rfl⟩
end Go.Proofs.YtmhmeppocbcmeaaGreat

/- Searching with a function; votes. -/
set_option linter.unusedVariables false
namespace Go.Proofs.YtmhmeppocbcmeaaGreat
open Go Go.Wt
theorem indexW_ct (l : List (Vote)) (fn : FuncId) (fa fc : List FV) (hO : Nat → Wt.Obj) (p : Vote → Bool) (hB : fnB Tryz.prog fn = true)
    (hf : ∀ x ∈ l, Ct Tryz.prog fn (avs fa ++ [.v x] ++ avs fc) hO (fun r1 h1 => r1 = .v (p x) ∧ h1 = hO)) (hd : ∀ z ∈ avs fa ++ avs fc, Hand hO z) (hH : ∀ o, obOk (pH hO) (hO o)) :
    Ct Tryz.prog 168 [.v l, .fn fn fa fc] hO (fun r1 h1 => r1 = .v (ixf p l 0) ∧ h1 = hO) := by
  refine Ct.intro Tryz.func168 rfl rfl ?_
  refine awp_bigL 0 rfl (fun hb => ?_)
  refine aS (aR ?_)
  refine oC (oA rfl (Conv.of rfl) rfl) ?_
  refine oN ?_
  refine aS (aS (aR ?_))
  refine oC (oM rfl (Conv.of rfl) rfl) ?_
  refine oC (oE sl141_Vote rfl rfl) ?_
  refine oC (oM rfl (Conv.of rfl) rfl) ?_
  refine oN ?_
  refine aB ?_
  refine awp_loop' (fun n s => ∃ (k : Nat), ∃ (hn : n + k = l.length), ∃ (hall : ixf p l 0 = ixf p (l.drop k) k), s = mkStH 19 [(0, .v l), (1, .fn fn fa fc), (7, .v (l.length : Int)), (8, .v (k : Int))] hO) (l.length) ⟨0, by omega, rfl, rfl⟩ (Le.mkH rfl (tlh rfl (rfl) (tlh rfl (rfl) (tlh rfl (rfl) (tlh rfl (rfl) tln)))) rfl) ?_
  rintro n s ⟨k, hn, hall, rfl⟩
  refine aS (aR ?_)
  refine oC (oLt rfl rfl rfl) ?_
  refine oN ?_
  refine aS (aC rfl (fun h => ?_) (fun h => ?_))
  · have hlt : k < l.length := by simpa using h
    have hx : l[k]? = some l[k] := List.getElem?_eq_getElem hlt
    have hs := ixf_drop (p := p) hx
    refine aW ?_
    refine aS (aB ?_)
    refine aS (aR ?_)
    refine oC (oM rfl (Conv.of rfl) rfl) ?_
    refine oC (oA rfl (Conv.of rfl) rfl) ?_
    refine oN ?_
    refine aS (aR ?_)
    refine oC (oM rfl (Conv.of (Hand.fn hd).1) rfl) ?_
    refine oC (oM rfl (Conv.of rfl) rfl) ?_
    refine oC (oM rfl (Conv.of rfl) rfl) ?_
    refine oC (op_ix sl141_Vote rfl rfl rfl (by omega) hx) ?_
    refine oC (oDR ty38 rfl rfl) ?_
    refine awpOps_callH rfl hB (.cons rfl (Conv.of rfl) (.nil _)) rfl (hf _ (List.getElem_mem hlt)) (Hand.with hd (Hand.l1 (Hand.of rfl rfl) Hand.l0)) hH rfl rfl ?_
    refine oN ?_
    refine aC rfl (fun h => ?_) (fun h => ?_)
    · refine aS (aR ?_)
      refine oC (oM rfl (Conv.of rfl) rfl) ?_
      refine oC (oA rfl (Conv.of rfl) rfl) ?_
      refine oN ?_
      refine aT ?_
      repeat first | refine rS ?_ | refine rB ?_
      refine finH (r := .v (k : Int)) (.v rfl (Conv.of rfl)) ?_ rfl
      show AV.v (k : Int) = _
      rw [hall, hs, h]; rfl
    · refine aW ?_
      refine aR ?_
      refine oC (oP rfl rfl rfl (by omega)) ?_
      refine oC (oM rfl (Conv.of rfl) rfl) ?_
      refine oN ?_
      repeat first | refine nS ?_ | refine nB ?_
      exact ⟨n - 1, _, by omega, ⟨k + 1, by omega, by rw [hall, hs, h]; rfl, rfl⟩, Le.mkH rfl (tlh rfl (rfl) (tlh rfl (rfl) (tlh rfl (rfl) (tlh rfl (rfl) tln)))) rfl⟩
  · refine aE ?_
    repeat refine ex_seq ?_
    refine eB ?_
    have hk : l.length ≤ k := by simpa using h
    refine aS (aR ?_)
    refine oC (oA rfl (Conv.of rfl) rfl) ?_
    refine oN ?_
    refine aT ?_
    repeat first | refine rS ?_ | refine rB ?_
    refine finH (r := .v (-1 : Int)) (.v rfl (Conv.of rfl)) ?_ rfl
    show AV.v (-1 : Int) = _
    rw [hall, drop_end hk]; rfl
theorem containsW_ct (l : List (Vote)) (fn : FuncId) (fa fc : List FV) (hO : Nat → Wt.Obj) (p : Vote → Bool) (hB : fnB Tryz.prog fn = true)
    (hf : ∀ x ∈ l, Ct Tryz.prog fn (avs fa ++ [.v x] ++ avs fc) hO (fun r1 h1 => r1 = .v (p x) ∧ h1 = hO)) (hd : ∀ z ∈ avs fa ++ avs fc, Hand hO z) (hH : ∀ o, obOk (pH hO) (hO o)) :
    Ct Tryz.prog 151 [.v l, .fn fn fa fc] hO (fun r1 h1 => r1 = .v (l.any p) ∧ h1 = hO) := by
  refine Ct.intro Tryz.func151 rfl rfl ?_
  refine aS (aR ?_)
  refine oC (oA rfl (Conv.of rfl) rfl) ?_
  refine oN ?_
  refine aS (aR ?_)
  refine oC (oM rfl (Conv.of rfl) rfl) ?_
  refine oC (oM rfl (Conv.of (Hand.fn hd).1) rfl) ?_
  refine awpOps_callH rfl (fb168) (.cons rfl (Conv.of rfl) (.cons rfl (Conv.of (Hand.fn hd).1) (.nil _))) rfl (indexW_ct l fn fa fc hO p hB hf hd hH) (Hand.none (Hand.l1 (Hand.of rfl rfl) (Hand.l1 (Hand.fn hd) Hand.l0))) hH rfl rfl ?_
  refine oC (op_geq rfl rfl rfl) ?_
  refine oC (oA rfl (Conv.of rfl) rfl) ?_
  refine oN ?_
  refine aT ?_
  repeat first | refine rS ?_ | refine rB ?_
  refine finH (r := .v (decide (0 ≤ ixf p l 0))) (.v rfl (Conv.of rfl)) ?_ rfl
  show AV.v _ = _
  rw [ixf_any p l 0 (Int.le_refl _)]
theorem indexV_ct (l : List (Vote)) (fn : FuncId) (fa fc : List FV) (hO : Nat → Wt.Obj) (p : Vote → Bool) (hB : fnB Tryz.prog fn = true)
    (hf : ∀ x ∈ l, Ct Tryz.prog fn (avs fa ++ [.v x] ++ avs fc) hO (fun r1 h1 => r1 = .v (p x) ∧ h1 = hO)) (hd : ∀ z ∈ avs fa ++ avs fc, Hand hO z) (hH : ∀ o, obOk (pH hO) (hO o)) :
    Ct Tryz.prog 102 [.v l, .fn fn fa fc] hO (fun r1 h1 => r1 = .v (ixf p l 0) ∧ h1 = hO) := by
  refine Ct.intro Tryz.func102 rfl rfl ?_
  refine awp_bigL 0 rfl (fun hb => ?_)
  refine aS (aR ?_)
  refine oC (oA rfl (Conv.of rfl) rfl) ?_
  refine oN ?_
  refine aS (aS (aR ?_))
  refine oC (oM rfl (Conv.of rfl) rfl) ?_
  refine oC (oE sl24_Vote rfl rfl) ?_
  refine oC (oM rfl (Conv.of rfl) rfl) ?_
  refine oN ?_
  refine aB ?_
  refine awp_loop' (fun n s => ∃ (k : Nat), ∃ (hn : n + k = l.length), ∃ (hall : ixf p l 0 = ixf p (l.drop k) k), s = mkStH 19 [(0, .v l), (1, .fn fn fa fc), (7, .v (l.length : Int)), (8, .v (k : Int))] hO) (l.length) ⟨0, by omega, rfl, rfl⟩ (Le.mkH rfl (tlh rfl (rfl) (tlh rfl (rfl) (tlh rfl (rfl) (tlh rfl (rfl) tln)))) rfl) ?_
  rintro n s ⟨k, hn, hall, rfl⟩
  refine aS (aR ?_)
  refine oC (oLt rfl rfl rfl) ?_
  refine oN ?_
  refine aS (aC rfl (fun h => ?_) (fun h => ?_))
  · have hlt : k < l.length := by simpa using h
    have hx : l[k]? = some l[k] := List.getElem?_eq_getElem hlt
    have hs := ixf_drop (p := p) hx
    refine aW ?_
    refine aS (aB ?_)
    refine aS (aR ?_)
    refine oC (oM rfl (Conv.of rfl) rfl) ?_
    refine oC (oA rfl (Conv.of rfl) rfl) ?_
    refine oN ?_
    refine aS (aR ?_)
    refine oC (oM rfl (Conv.of (Hand.fn hd).1) rfl) ?_
    refine oC (oM rfl (Conv.of rfl) rfl) ?_
    refine oC (oM rfl (Conv.of rfl) rfl) ?_
    refine oC (op_ix sl24_Vote rfl rfl rfl (by omega) hx) ?_
    refine oC (oDR ty38 rfl rfl) ?_
    refine awpOps_callH rfl hB (.cons rfl (Conv.of rfl) (.nil _)) rfl (hf _ (List.getElem_mem hlt)) (Hand.with hd (Hand.l1 (Hand.of rfl rfl) Hand.l0)) hH rfl rfl ?_
    refine oN ?_
    refine aC rfl (fun h => ?_) (fun h => ?_)
    · refine aS (aR ?_)
      refine oC (oM rfl (Conv.of rfl) rfl) ?_
      refine oC (oA rfl (Conv.of rfl) rfl) ?_
      refine oN ?_
      refine aT ?_
      repeat first | refine rS ?_ | refine rB ?_
      refine finH (r := .v (k : Int)) (.v rfl (Conv.of rfl)) ?_ rfl
      show AV.v (k : Int) = _
      rw [hall, hs, h]; rfl
    · refine aW ?_
      refine aR ?_
      refine oC (oP rfl rfl rfl (by omega)) ?_
      refine oC (oM rfl (Conv.of rfl) rfl) ?_
      refine oN ?_
      repeat first | refine nS ?_ | refine nB ?_
      exact ⟨n - 1, _, by omega, ⟨k + 1, by omega, by rw [hall, hs, h]; rfl, rfl⟩, Le.mkH rfl (tlh rfl (rfl) (tlh rfl (rfl) (tlh rfl (rfl) (tlh rfl (rfl) tln)))) rfl⟩
  · refine aE ?_
    repeat refine ex_seq ?_
    refine eB ?_
    have hk : l.length ≤ k := by simpa using h
    refine aS (aR ?_)
    refine oC (oA rfl (Conv.of rfl) rfl) ?_
    refine oN ?_
    refine aT ?_
    repeat first | refine rS ?_ | refine rB ?_
    refine finH (r := .v (-1 : Int)) (.v rfl (Conv.of rfl)) ?_ rfl
    show AV.v (-1 : Int) = _
    rw [hall, drop_end hk]; rfl
theorem containsV_ct (l : List (Vote)) (fn : FuncId) (fa fc : List FV) (hO : Nat → Wt.Obj) (p : Vote → Bool) (hB : fnB Tryz.prog fn = true)
    (hf : ∀ x ∈ l, Ct Tryz.prog fn (avs fa ++ [.v x] ++ avs fc) hO (fun r1 h1 => r1 = .v (p x) ∧ h1 = hO)) (hd : ∀ z ∈ avs fa ++ avs fc, Hand hO z) (hH : ∀ o, obOk (pH hO) (hO o)) :
    Ct Tryz.prog 44 [.v l, .fn fn fa fc] hO (fun r1 h1 => r1 = .v (l.any p) ∧ h1 = hO) := by
  refine Ct.intro Tryz.func44 rfl rfl ?_
  refine aS (aR ?_)
  refine oC (oA rfl (Conv.of rfl) rfl) ?_
  refine oN ?_
  refine aS (aR ?_)
  refine oC (oM rfl (Conv.of rfl) rfl) ?_
  refine oC (oM rfl (Conv.of (Hand.fn hd).1) rfl) ?_
  refine awpOps_callH rfl (fb102) (.cons rfl (Conv.of rfl) (.cons rfl (Conv.of (Hand.fn hd).1) (.nil _))) rfl (indexV_ct l fn fa fc hO p hB hf hd hH) (Hand.none (Hand.l1 (Hand.of rfl rfl) (Hand.l1 (Hand.fn hd) Hand.l0))) hH rfl rfl ?_
  refine oC (op_geq rfl rfl rfl) ?_
  refine oC (oA rfl (Conv.of rfl) rfl) ?_
  refine oN ?_
  refine aT ?_
  repeat first | refine rS ?_ | refine rB ?_
  refine finH (r := .v (decide (0 ≤ ixf p l 0))) (.v rfl (Conv.of rfl)) ?_ rfl
  show AV.v _ = _
  rw [ixf_any p l 0 (Int.le_refl _)]
theorem indexC_ct (l : List (CList Itm)) (fn : FuncId) (fa fc : List FV) (hO : Nat → Wt.Obj) (p : CList Itm → Bool) (hB : fnB Tryz.prog fn = true)
    (hf : ∀ x ∈ l, Ct Tryz.prog fn (avs fa ++ [.v x] ++ avs fc) hO (fun r1 h1 => r1 = .v (p x) ∧ h1 = hO)) (hd : ∀ z ∈ avs fa ++ avs fc, Hand hO z) (hH : ∀ o, obOk (pH hO) (hO o)) :
    Ct Tryz.prog 182 [.v l, .fn fn fa fc] hO (fun r1 h1 => r1 = .v (ixf p l 0) ∧ h1 = hO) := by
  refine Ct.intro Tryz.func182 rfl rfl ?_
  refine awp_bigL 0 rfl (fun hb => ?_)
  refine aS (aR ?_)
  refine oC (oA rfl (Conv.of rfl) rfl) ?_
  refine oN ?_
  refine aS (aS (aR ?_))
  refine oC (oM rfl (Conv.of rfl) rfl) ?_
  refine oC (oE sl133_CListItm rfl rfl) ?_
  refine oC (oM rfl (Conv.of rfl) rfl) ?_
  refine oN ?_
  refine aB ?_
  refine awp_loop' (fun n s => ∃ (k : Nat), ∃ (hn : n + k = l.length), ∃ (hall : ixf p l 0 = ixf p (l.drop k) k), s = mkStH 19 [(0, .v l), (1, .fn fn fa fc), (7, .v (l.length : Int)), (8, .v (k : Int))] hO) (l.length) ⟨0, by omega, rfl, rfl⟩ (Le.mkH rfl (tlh rfl (rfl) (tlh rfl (rfl) (tlh rfl (rfl) (tlh rfl (rfl) tln)))) rfl) ?_
  rintro n s ⟨k, hn, hall, rfl⟩
  refine aS (aR ?_)
  refine oC (oLt rfl rfl rfl) ?_
  refine oN ?_
  refine aS (aC rfl (fun h => ?_) (fun h => ?_))
  · have hlt : k < l.length := by simpa using h
    have hx : l[k]? = some l[k] := List.getElem?_eq_getElem hlt
    have hs := ixf_drop (p := p) hx
    refine aW ?_
    refine aS (aB ?_)
    refine aS (aR ?_)
    refine oC (oM rfl (Conv.of rfl) rfl) ?_
    refine oC (oA rfl (Conv.of rfl) rfl) ?_
    refine oN ?_
    refine aS (aR ?_)
    refine oC (oM rfl (Conv.of (Hand.fn hd).1) rfl) ?_
    refine oC (oM rfl (Conv.of rfl) rfl) ?_
    refine oC (oM rfl (Conv.of rfl) rfl) ?_
    refine oC (op_ix sl133_CListItm rfl rfl rfl (by omega) hx) ?_
    refine oC (oDR ty27_CListItm rfl rfl) ?_
    refine awpOps_callH rfl hB (.cons rfl (Conv.of rfl) (.nil _)) rfl (hf _ (List.getElem_mem hlt)) (Hand.with hd (Hand.l1 (Hand.of rfl rfl) Hand.l0)) hH rfl rfl ?_
    refine oN ?_
    refine aC rfl (fun h => ?_) (fun h => ?_)
    · refine aS (aR ?_)
      refine oC (oM rfl (Conv.of rfl) rfl) ?_
      refine oC (oA rfl (Conv.of rfl) rfl) ?_
      refine oN ?_
      refine aT ?_
      repeat first | refine rS ?_ | refine rB ?_
      refine finH (r := .v (k : Int)) (.v rfl (Conv.of rfl)) ?_ rfl
      show AV.v (k : Int) = _
      rw [hall, hs, h]; rfl
    · refine aW ?_
      refine aR ?_
      refine oC (oP rfl rfl rfl (by omega)) ?_
      refine oC (oM rfl (Conv.of rfl) rfl) ?_
      refine oN ?_
      repeat first | refine nS ?_ | refine nB ?_
      exact ⟨n - 1, _, by omega, ⟨k + 1, by omega, by rw [hall, hs, h]; rfl, rfl⟩, Le.mkH rfl (tlh rfl (rfl) (tlh rfl (rfl) (tlh rfl (rfl) (tlh rfl (rfl) tln)))) rfl⟩
  · refine aE ?_
    repeat refine ex_seq ?_
    refine eB ?_
    have hk : l.length ≤ k := by simpa using h
    refine aS (aR ?_)
    refine oC (oA rfl (Conv.of rfl) rfl) ?_
    refine oN ?_
    refine aT ?_
    repeat first | refine rS ?_ | refine rB ?_
    refine finH (r := .v (-1 : Int)) (.v rfl (Conv.of rfl)) ?_ rfl
    show AV.v (-1 : Int) = _
    rw [hall, drop_end hk]; rfl
theorem containsC_ct (l : List (CList Itm)) (fn : FuncId) (fa fc : List FV) (hO : Nat → Wt.Obj) (p : CList Itm → Bool) (hB : fnB Tryz.prog fn = true)
    (hf : ∀ x ∈ l, Ct Tryz.prog fn (avs fa ++ [.v x] ++ avs fc) hO (fun r1 h1 => r1 = .v (p x) ∧ h1 = hO)) (hd : ∀ z ∈ avs fa ++ avs fc, Hand hO z) (hH : ∀ o, obOk (pH hO) (hO o)) :
    Ct Tryz.prog 179 [.v l, .fn fn fa fc] hO (fun r1 h1 => r1 = .v (l.any p) ∧ h1 = hO) := by
  refine Ct.intro Tryz.func179 rfl rfl ?_
  refine aS (aR ?_)
  refine oC (oA rfl (Conv.of rfl) rfl) ?_
  refine oN ?_
  refine aS (aR ?_)
  refine oC (oM rfl (Conv.of rfl) rfl) ?_
  refine oC (oM rfl (Conv.of (Hand.fn hd).1) rfl) ?_
  refine awpOps_callH rfl (fb182) (.cons rfl (Conv.of rfl) (.cons rfl (Conv.of (Hand.fn hd).1) (.nil _))) rfl (indexC_ct l fn fa fc hO p hB hf hd hH) (Hand.none (Hand.l1 (Hand.of rfl rfl) (Hand.l1 (Hand.fn hd) Hand.l0))) hH rfl rfl ?_
  refine oC (op_geq rfl rfl rfl) ?_
  refine oC (oA rfl (Conv.of rfl) rfl) ?_
  refine oN ?_
  refine aT ?_
  repeat first | refine rS ?_ | refine rB ?_
  refine finH (r := .v (decide (0 ≤ ixf p l 0))) (.v rfl (Conv.of rfl)) ?_ rfl
  show AV.v _ = _
  rw [ixf_any p l 0 (Int.le_refl _)]
theorem same_ct (v u : Vote) : CtP Tryz.prog 152 [.v v, .v u] (.v (decide (v = u))) := by
  refine Ct.intro Tryz.func152 rfl rfl ?_
  all_goals refine aS (aR ?_)
  all_goals refine oC (op_box (o := 0) ty38 rfl (Conv.of rfl) rfl rfl) ?_
  all_goals refine oC (op_box (o := 1) ty38 rfl (Conv.of rfl) rfl rfl) ?_
  all_goals refine oC (oA rfl (Conv.of rfl) rfl) ?_
  all_goals refine oN ?_
  all_goals refine aS (aR ?_)
  all_goals refine oC (oF f38_0 rfl rfl) ?_
  all_goals refine oC (oD ty3 rfl rfl rfl) ?_
  all_goals refine oC (oF f38_0 rfl rfl) ?_
  all_goals refine oC (oD ty3 rfl rfl rfl) ?_
  all_goals refine oC (op_eql rfl rfl rfl) ?_
  all_goals refine oC (oM rfl (Conv.of rfl) rfl) ?_
  all_goals refine g_split (t := 10) rfl (fun h => ?_) (fun h => ?_)
  all_goals first | refine oC (gF rfl rfl rfl rfl rfl) ?_ | refine oC (gN rfl rfl rfl (oF f38_1 rfl rfl)) ?_
  all_goals first | refine oC (gF rfl rfl rfl rfl rfl) ?_ | refine oC (gN rfl rfl rfl (oD ty27 rfl rfl rfl)) ?_
  all_goals first | refine oC (gF rfl rfl rfl rfl rfl) ?_ | refine oC (gN rfl rfl rfl (oF f38_1 rfl rfl)) ?_
  all_goals first | refine oC (gF rfl rfl rfl rfl rfl) ?_ | refine oC (gN rfl rfl rfl (oD ty27 rfl rfl rfl)) ?_
  all_goals first | refine oC (gF rfl rfl rfl rfl rfl) ?_ | refine oC (gN rfl rfl rfl (oL fb169 (.cons rfl (Conv.of rfl) (.cons rfl (Conv.of rfl) (.nil _))) (equal_ct _ _) (aK rfl rfl (aK rfl rfl aK0)) rfl rfl)) ?_
  all_goals refine oC (oQ rfl rfl rfl rfl) ?_
  all_goals refine oC (oA rfl (Conv.of rfl) rfl) ?_
  all_goals refine oN ?_
  all_goals refine aT ?_
  all_goals refine finP (.v rfl (Conv.of rfl)) rfl ?_
  all_goals (obtain ⟨v1, v2⟩ := v; obtain ⟨u1, u2⟩ := u; simp_all [FV.av])
theorem has_ct (l : List Vote) (v : Vote) : CtP Tryz.prog 103 [.v l, .v v] (.v (decide (v ∈ l))) := by
  refine Ct.intro Tryz.func103 rfl rfl ?_
  refine aS (aR ?_)
  refine oC (op_box (o := 0) ty38 rfl (Conv.of rfl) rfl rfl) ?_
  refine oC (oA rfl (Conv.of rfl) rfl) ?_
  refine oN ?_
  have hc := containsW_ct l 152 [.v v] [] noObj (fun x => decide (v = x)) fb152 (fun x hx => same_ct v x) (by intro z hz; simp [avs] at hz; subst hz; exact Hand.of rfl rfl) noH
  refine aS (aR ?_)
  refine oC (oM rfl (Conv.of rfl) rfl) ?_
  refine oC (oD ty38 rfl rfl rfl) ?_
  refine oC (op_mf (f := 152) (.cons (r := .v v) rfl (Conv.of rfl) .nil) .nil rfl) ?_
  refine oC (oL fb151 (.cons rfl (Conv.of rfl) (.cons rfl (Conv.of rfl) (.nil _))) (hc) (aK rfl rfl (aK rfl rfl aK0)) rfl rfl) ?_
  refine oC (oA rfl (Conv.of rfl) rfl) ?_
  refine oN ?_
  refine aT ?_
  repeat first | refine rS ?_ | refine rB ?_
  refine finP (.v rfl (Conv.of rfl)) rfl ?_
  show AV.v _ = _
  congr 1
  rw [Bool.eq_iff_iff]; simp
end Go.Proofs.YtmhmeppocbcmeaaGreat

/- Votes. -/
set_option linter.unusedVariables false
namespace Go.Proofs.YtmhmeppocbcmeaaGreat
open Go Go.Wt
theorem nodeIdOk_ct (n : Int) : CtP Tryz.prog 112 [.v n] (.v (within n 1 4)) := by
  refine Ct.intro Tryz.func112 rfl rfl ?_
  refine aS (aR ?_)
  refine oC (oA rfl (Conv.of rfl) rfl) ?_
  refine oN ?_
  refine aS (aR ?_)
  refine oC (oM rfl (Conv.of rfl) rfl) ?_
  refine oC (oL fb98 (.cons rfl (Conv.of rfl) (.cons rfl (Conv.of rfl) (.cons rfl (Conv.of rfl) (.nil _)))) (within_ct _ _ _) (aK rfl rfl (aK rfl rfl (aK rfl rfl aK0))) rfl rfl) ?_
  refine oC (oA rfl (Conv.of rfl) rfl) ?_
  refine oN ?_
  refine aT ?_
  exact finP (.v rfl (Conv.of rfl)) rfl rfl
theorem voteOk_ct (v : Vote) : CtP Tryz.prog 122 [.v v] (.v (voteOk v)) := by
  refine Ct.intro Tryz.func122 rfl rfl ?_
  all_goals refine aS (aR ?_)
  all_goals refine oC (op_box (o := 0) ty38 rfl (Conv.of rfl) rfl rfl) ?_
  all_goals refine oC (oA rfl (Conv.of rfl) rfl) ?_
  all_goals refine oN ?_
  all_goals refine aS (aR ?_)
  all_goals refine oC (oF f38_0 rfl rfl) ?_
  all_goals refine oC (oD ty3 rfl rfl rfl) ?_
  all_goals refine oC (oL fb112 (.cons rfl (Conv.of rfl) (.nil _)) (nodeIdOk_ct _) (aK rfl rfl aK0) rfl rfl) ?_
  all_goals refine oC (oM rfl (Conv.of rfl) rfl) ?_
  all_goals refine g_split (t := 6) rfl (fun h => ?_) (fun h => ?_)
  all_goals first | refine oC (gF rfl rfl rfl rfl rfl) ?_ | refine oC (gN rfl rfl rfl (oF f38_1 rfl rfl)) ?_
  all_goals first | refine oC (gF rfl rfl rfl rfl rfl) ?_ | refine oC (gN rfl rfl rfl (oD ty27 rfl rfl rfl)) ?_
  all_goals first | refine oC (gF rfl rfl rfl rfl rfl) ?_ | refine oC (gN rfl rfl rfl (oE sl27 rfl rfl)) ?_
  all_goals first | refine oC (gF rfl rfl rfl rfl rfl) ?_ | refine oC (gN rfl rfl rfl (op_gtr rfl rfl rfl)) ?_
  all_goals refine oC (oQ rfl rfl rfl rfl) ?_
  all_goals refine oC (oM rfl (Conv.of rfl) rfl) ?_
  all_goals first | refine g_lit (t := 12) (b := false) rfl ?_ | refine g_split (t := 12) rfl (fun h => ?_) (fun h => ?_)
  all_goals first | refine oC (gF rfl rfl rfl rfl rfl) ?_ | refine oC (gN rfl rfl rfl (oF f38_1 rfl rfl)) ?_
  all_goals first | refine oC (gF rfl rfl rfl rfl rfl) ?_ | refine oC (gN rfl rfl rfl (oD ty27 rfl rfl rfl)) ?_
  all_goals first | refine oC (gF rfl rfl rfl rfl rfl) ?_ | refine oC (gN rfl rfl rfl (oL fb53 (.cons rfl (Conv.of rfl) (.nil _)) (chainOk_ct _) (aK rfl rfl aK0) rfl rfl)) ?_
  all_goals refine oC (oQ rfl rfl rfl rfl) ?_
  all_goals refine oC (oA rfl (Conv.of rfl) rfl) ?_
  all_goals refine oN ?_
  all_goals refine aT ?_
  all_goals refine finP (.v rfl (Conv.of rfl)) rfl ?_
  all_goals (simp_all [FV.av, voteOk])
theorem last_ct (v : Vote) (hv : 0 < v.chain.length) : CtP Tryz.prog 150 [.v v] (.v (lastEp v.chain)) := by
  have hx : v.chain[v.chain.length - 1]? = some (v.chain[v.chain.length - 1]'(by omega)) := List.getElem?_eq_getElem (by omega)
  have hx' : v.chain[((v.chain.length : Int) - 1).toNat]? = some (v.chain[v.chain.length - 1]'(by omega)) := by
    rw [show ((v.chain.length : Int) - 1).toNat = v.chain.length - 1 by omega]; exact hx
  refine Ct.intro Tryz.func150 rfl rfl ?_
  refine aS (aR ?_)
  refine oC (op_box (o := 0) ty38 rfl (Conv.of rfl) rfl rfl) ?_
  refine oC (oA rfl (Conv.of rfl) rfl) ?_
  refine oN ?_
  refine aS (aR ?_)
  refine oC (oF f38_1 rfl rfl) ?_
  refine oC (oD ty27 rfl rfl rfl) ?_
  refine oC (oF f38_1 rfl rfl) ?_
  refine oC (oD ty27 rfl rfl rfl) ?_
  refine oC (oE sl27 rfl rfl) ?_
  refine awpOps_bigL 4 rfl (fun hb => ?_)
  refine oC (op_sub rfl rfl rfl (by omega)) ?_
  refine oC (op_ix sl27 rfl rfl rfl (by omega) hx') ?_
  refine oC (oFR f143_0 rfl rfl) ?_
  refine oC (oDR ty3 rfl rfl) ?_
  refine oC (oA rfl (Conv.of rfl) rfl) ?_
  refine oN ?_
  refine aT ?_
  repeat first | refine rS ?_ | refine rB ?_
  refine finP (.v rfl (Conv.of rfl)) rfl ?_
  show AV.v _ = _
  rw [lastEp_get hx]
theorem leader_ct (n : Int) : CtP Tryz.prog 137 [.v n] (.v (leader n)) := by
  refine Ct.intro Tryz.func137 rfl rfl ?_
  refine aS (aR ?_)
  refine oC (oA rfl (Conv.of rfl) rfl) ?_
  refine oN ?_
  refine aS (aS (aR ?_))
  refine oC (oM rfl (Conv.of rfl) rfl) ?_
  refine oC (oL fb109 (.cons rfl (Conv.of rfl) (.nil _)) (epochOk_ct _) (aK rfl rfl aK0) rfl rfl) ?_
  refine oC (op_not rfl rfl) ?_
  refine oN ?_
  refine aC rfl (fun h => ?_) (fun h => ?_)
  · refine aS (aR ?_)
    refine oC (oA rfl (Conv.of rfl) rfl) ?_
    refine oN ?_
    refine aT ?_
    repeat first | refine rS ?_ | refine rB ?_
    refine finP (.v rfl (Conv.of rfl)) rfl ?_
    show AV.v (0 : Int) = _
    have : within n 1 30 = false := by simpa using h
    simp [leader, this]
  · refine aW ?_
    have hw : within n 1 30 = true := by simpa using h
    have hw' : 1 ≤ n ∧ n ≤ 30 := by simpa [within] using hw
    have ht1 := Int.tmod_nonneg 4 (show 0 ≤ n - 1 by omega)
    have ht2 := Int.tmod_lt_of_pos (n - 1) (show (0 : Int) < 4 by omega)
    refine aS (aR ?_)
    refine oC (oM rfl (Conv.of rfl) rfl) ?_
    refine oC (op_sub rfl rfl rfl (by omega)) ?_
    refine oC (op_rem rfl rfl rfl (by decide)) ?_
    refine oC (oP rfl rfl rfl (by omega)) ?_
    refine oC (oA rfl (Conv.of rfl) rfl) ?_
    refine oN ?_
    refine aT ?_
    repeat first | refine rS ?_ | refine rB ?_
    refine finP (.v rfl (Conv.of rfl)) rfl ?_
    show AV.v _ = _
    simp [leader, hw]
set_option maxHeartbeats 1000000 in
theorem votesOk_ct (l : List Vote) : CtP Tryz.prog 99 [.v l] (.v (votesOk l)) := by
  refine Ct.intro Tryz.func99 rfl rfl ?_
  refine awp_bigL 0 rfl (fun hB => ?_)
  all_goals refine aS (aR ?_)
  all_goals refine oC (oA rfl (Conv.of rfl) rfl) ?_
  all_goals refine oN ?_
  all_goals refine aS (aS (aR ?_))
  all_goals refine oC (oM rfl (Conv.of rfl) rfl) ?_
  all_goals refine oC (oE sl24 rfl rfl) ?_
  all_goals refine oC (oM rfl (Conv.of rfl) rfl) ?_
  all_goals refine oN ?_
  refine aB ?_
  refine awp_loop' (fun n s => ∃ (k : Nat), ∃ (hn : n + k = l.length), ∃ (hall : votesOk l = votesOkFrom (l.take k) (l.drop k)), s = mkSt 23 [(0, .v l), (5, .v l), (6, .v (l.length : Int)), (7, .v (k : Int))] []) (l.length) ⟨0, by omega, rfl, rfl⟩ (Le.mk rfl (tle rfl (rfl) rfl (tle rfl (rfl) rfl (tle rfl (rfl) rfl (tle rfl (rfl) rfl tln)))) oln noS) ?_
  rintro n s ⟨k, hn, hall, rfl⟩
  all_goals refine aS (aR ?_)
  all_goals refine oC (oLt rfl rfl rfl) ?_
  all_goals refine oN ?_
  refine aS (aC rfl (fun h => ?_) (fun h => ?_))
  · have hlt : k < l.length := by simpa using h
    have hx : l[k]? = some l[k] := List.getElem?_eq_getElem hlt
    have hs := votesOk_drop hx
    refine aW ?_
    refine aS (aB ?_)
    all_goals refine aS (aR ?_)
    all_goals refine oC (oM rfl (Conv.of rfl) rfl) ?_
    all_goals refine oC (op_ix sl24 rfl rfl rfl (by omega) hx) ?_
    all_goals refine oC (oDR ty38 rfl rfl) ?_
    all_goals refine oC (oX (o := 0) z38 rfl rfl) ?_
    all_goals refine oC (oA rfl (Conv.of rfl) rfl) ?_
    all_goals refine oC (op_st ty38 rfl rfl (Conv.of rfl) rfl) ?_
    all_goals refine oN ?_
    refine aST (s' := mkSt 23 [(0, .v l), (5, .v l), (6, .v (l.length : Int)), (7, .v (k : Int)), (21, .v (!(voteOk l[k] && !decide (l[k] ∈ l.take k))))] []) ?_ ?_
    · all_goals refine dS ?_
      all_goals refine dC (oD ty38 rfl rfl rfl) ?_
      all_goals refine dC (oL fb122 (.cons rfl (Conv.of rfl) (.nil _)) (voteOk_ct _) (aK rfl rfl aK0) rfl rfl) ?_
      all_goals refine dC (op_not rfl rfl) ?_
      all_goals refine dC (oM rfl (Conv.of rfl) rfl) ?_
      all_goals refine dr_split (t := 15) rfl (fun h => ?_) (fun h => ?_)
      all_goals first | refine dC (gF rfl rfl rfl rfl rfl) ?_ | refine dC (gN rfl rfl rfl (oM rfl (Conv.of rfl) rfl)) ?_
      all_goals first | refine dC (gF rfl rfl rfl rfl rfl) ?_ | refine dC (gN rfl rfl rfl (oM rfl (Conv.of rfl) rfl)) ?_
      all_goals first | refine dC (gF rfl rfl rfl rfl rfl) ?_ | refine dC (gN rfl rfl rfl (op_slh sl24 rfl rfl rfl ⟨by omega, by omega⟩)) ?_
      all_goals first | refine dC (gF rfl rfl rfl rfl rfl) ?_ | refine dC (gN rfl rfl rfl (oD ty38 rfl rfl rfl)) ?_
      all_goals first | refine dC (gF rfl rfl rfl rfl rfl) ?_ | refine dC (gN rfl rfl rfl (oL fb103 (.cons rfl (Conv.of rfl) (.cons rfl (Conv.of rfl) (.nil _))) (has_ct _ _) (aK rfl rfl (aK rfl rfl aK0)) rfl rfl)) ?_
      all_goals refine dC (oQ rfl rfl rfl rfl) ?_
      all_goals refine dr_nil mixed rfl ?_
      all_goals exact Le.mk rfl (tle rfl (rfl) rfl (tle rfl (rfl) rfl (tle rfl (rfl) rfl (tle rfl (rfl) rfl (tle rfl (by (clear hall hs; simp_all)) rfl tln))))) oln noS
    refine aC rfl (fun h => ?_) (fun h => ?_)
    · all_goals refine aS (aR ?_)
      all_goals refine oC (oA rfl (Conv.of rfl) rfl) ?_
      all_goals refine oN ?_
      refine aT ?_
      repeat first | refine rS ?_ | refine rB ?_
      refine finP (.v rfl (Conv.of rfl)) rfl ?_
      show AV.v false = _
      rw [hall, hs, not_t h, Bool.false_and]
    · refine aW ?_
      all_goals refine aR ?_
      all_goals refine oC (oP rfl rfl rfl (by omega)) ?_
      all_goals refine oC (oM rfl (Conv.of rfl) rfl) ?_
      all_goals refine oN ?_
      repeat first | refine nS ?_ | refine nB ?_
      exact ⟨n - 1, _, by omega, ⟨k + 1, by omega, by rw [hall, hs, not_f h, Bool.true_and], rfl⟩, Le.mk rfl (tle rfl (rfl) rfl (tle rfl (rfl) rfl (tle rfl (rfl) rfl (tle rfl (rfl) rfl tln)))) oln noS⟩
  · refine aE ?_
    repeat refine ex_seq ?_
    refine eB ?_
    have hk : l.length ≤ k := by simpa using h
    all_goals refine aS (aR ?_)
    all_goals refine oC (oA rfl (Conv.of rfl) rfl) ?_
    all_goals refine oN ?_
    refine aT ?_
    repeat first | refine rS ?_ | refine rB ?_
    refine finP (.v rfl (Conv.of rfl)) rfl ?_
    show AV.v true = _
    rw [hall, drop_end hk]; rfl
theorem copied_ct (c : List Itm) (hc : c.length ≤ 1000000) : CtP Tryz.prog 58 [.v c] (.v (CList.mk c)) := by
  refine Ct.intro Tryz.func58 rfl rfl ?_
  refine aS (aR ?_)
  refine oC (oA rfl (Conv.of rfl) rfl) ?_
  refine oN ?_
  refine aS (aR ?_)
  refine oC (oM rfl (Conv.of rfl) rfl) ?_
  refine oC (oL fb114 (.cons rfl (Conv.of rfl) (.nil _)) (cloneI_ct _ hc) (aK rfl rfl aK0) rfl rfl) ?_
  refine oC (oL fb113 (.cons rfl ((Conv.ol)) (.nil _)) (clipI_ct ⟨c, true⟩) (aK rfl rfl aK0) rfl rfl) ?_
  refine oC (oA rfl (Conv.of rfl) rfl) ?_
  refine oN ?_
  refine aT ?_
  repeat first | refine rS ?_ | refine rB ?_
  exact finP (.v rfl (Conv.of rfl)) rfl rfl
end Go.Proofs.YtmhmeppocbcmeaaGreat

/- Votes copied, counted; sure chains. -/
set_option linter.unusedVariables false
namespace Go.Proofs.YtmhmeppocbcmeaaGreat
open Go Go.Wt
theorem voteCopied_ct (v : Vote) (hv : v.chain.length ≤ 1000000) : CtP Tryz.prog 159 [.v v] (.v v) := by
  refine Ct.intro Tryz.func159 rfl rfl ?_
  refine aS (aR ?_)
  refine oC (op_box (o := 0) ty38 rfl (Conv.of rfl) rfl rfl) ?_
  refine oC (oX (o := 1) z38 rfl rfl) ?_
  refine oN ?_
  refine aS (dS ?_)
  refine dC (oF f38_0 rfl rfl) ?_
  refine dC (oD ty3 rfl rfl rfl) ?_
  refine dC (oF f38_1 rfl rfl) ?_
  refine dC (oD ty27 rfl rfl rfl) ?_
  refine dC (oL fb58 (.cons rfl (Conv.of rfl) (.nil _)) (copied_ct _ hv) (aK rfl rfl aK0) rfl rfl) ?_
  refine dC (op_build (.cons f38_0 rfl (Conv.of rfl) (.cons f38_1 rfl Conv.cl (.nil _))) z38 rfl pl38 rfl) ?_
  refine dC (op_st ty38 rfl rfl (Conv.of rfl) rfl) ?_
  refine dr_nil mixed rfl ?_
  refine aT ?_
  repeat first | refine rS ?_ | refine rB ?_
  exact finP (.rc ty38 rfl rfl) rfl rfl
theorem with_ct (l : List Vote) (v : Vote) (hl : l.length ≤ 1000000) (hv : v.chain.length ≤ 1000000) : CtP Tryz.prog 158 [.v l, .v v] (.v (CList.mk (l ++ [v]))) := by
  refine Ct.intro Tryz.func158 rfl rfl ?_
  refine aS (aR ?_)
  refine oC (op_box (o := 0) ty38 rfl (Conv.of rfl) rfl rfl) ?_
  refine oC (oA rfl (Conv.of rfl) rfl) ?_
  refine oN ?_
  refine aS (dS ?_)
  refine dC (oM rfl (Conv.of rfl) rfl) ?_
  refine dC (oL fb175 (.cons rfl (Conv.of rfl) (.nil _)) (cloneV_ct _ hl) (aK rfl rfl aK0) rfl rfl) ?_
  refine dC (oD ty38 rfl rfl rfl) ?_
  refine dC (oL fb159 (.cons rfl (Conv.of rfl) (.nil _)) (voteCopied_ct _ hv) (aK rfl rfl aK0) rfl rfl) ?_
  refine dC (op_bsl sl24 z38 (.cons rfl (Conv.of rfl) (.nil _)) rfl (by decide) rfl) ?_
  refine dC (op_app sl24 z38 ul24 rfl rfl rfl (by (simp; omega)) (by (simp; omega)) rfl rfl) ?_
  refine dC (oL fb60 (.cons rfl ((Conv.ol)) (.nil _)) (clipV_ct ⟨l ++ [v], true⟩) (aK rfl rfl aK0) rfl rfl) ?_
  refine dC (oA rfl (Conv.of rfl) rfl) ?_
  refine dr_nil mixed rfl ?_
  refine aT ?_
  repeat first | refine rS ?_ | refine rB ?_
  exact finP (.v rfl (Conv.of rfl)) rfl rfl
theorem votesCopied_ct (l : List Vote) (hl : l.length ≤ 1000000) (hv : ∀ v ∈ l, v.chain.length ≤ 1000000) : CtP Tryz.prog 124 [.v l] (.v (OList.mk l true)) := by
  refine Ct.intro Tryz.func124 rfl rfl ?_
  refine aS (aR ?_)
  refine oC (oA rfl (Conv.of rfl) rfl) ?_
  refine oN ?_
  refine aS (aR ?_)
  refine oC (oM rfl (Conv.of rfl) rfl) ?_
  refine oC (oE sl141 rfl rfl) ?_
  refine oC (op_mkl sl24 z38 rfl rfl (by omega) (by omega) (by omega) rfl) ?_
  refine oC (op_asl rfl rfl rfl rfl) ?_
  refine oN ?_
  refine aS (aS (aR ?_))
  refine oC (oM rfl (Conv.of rfl) rfl) ?_
  refine oC (oE sl141 rfl rfl) ?_
  refine oC (oM rfl (Conv.of rfl) rfl) ?_
  refine oN ?_
  refine aB ?_
  refine awp_loop' (fun n s => ∃ (k : Nat), ∃ (hn : n + k = l.length), s = mkSt 22 [(0, .v l), (3, .v (OList.mk (l.take k) true)), (9, .v l), (10, .v (l.length : Int)), (11, .v (k : Int))] []) (l.length) ⟨0, by omega, rfl⟩ (Le.mk rfl (tle rfl (rfl) rfl (tle rfl (by rfl) rfl (tle rfl (rfl) rfl (tle rfl (rfl) rfl (tle rfl (rfl) rfl tln))))) oln noS) ?_
  rintro n s ⟨k, hn, rfl⟩
  refine aS (aR ?_)
  refine oC (oLt rfl rfl rfl) ?_
  refine oN ?_
  refine aS (aC rfl (fun h => ?_) (fun h => ?_))
  · have hlt : k < l.length := by simpa using h
    have hx : l[k]? = some l[k] := List.getElem?_eq_getElem hlt
    refine aW ?_
    refine aS (aB ?_)
    refine aS (aR ?_)
    refine oC (op_ix sl141 rfl rfl rfl (by omega) hx) ?_
    refine oC (oDR ty38 rfl rfl) ?_
    refine oC (oX (o := 0) z38 rfl rfl) ?_
    refine oC (op_st ty38 rfl rfl (Conv.of rfl) rfl) ?_
    refine oN ?_
    refine aR ?_
    refine oC (op_mvl rfl rfl rfl rfl) ?_
    refine oC (oD ty38 rfl rfl rfl) ?_
    refine oC (oL fb159 (.cons rfl (Conv.of rfl) (.nil _)) (voteCopied_ct _ (hv _ (List.getElem_mem hlt))) (aK rfl rfl aK0) rfl rfl) ?_
    refine oC (op_bsl sl24 z38 (.cons rfl (Conv.of rfl) (.nil _)) rfl (by decide) rfl) ?_
    refine oC (op_app sl24 z38 ul24 rfl rfl rfl (by (simp; omega)) (by (simp; omega)) rfl rfl) ?_
    refine oC (op_asl rfl rfl rfl rfl) ?_
    refine oN ?_
    refine aR ?_
    refine oC (oP rfl rfl rfl (by omega)) ?_
    refine oC (oM rfl (Conv.of rfl) rfl) ?_
    refine oN ?_
    repeat first | refine nS ?_ | refine nB ?_
    exact ⟨n - 1, _, by omega, ⟨k + 1, by omega, rfl⟩, Le.mk rfl (tle rfl (rfl) rfl (tle rfl (by (rw [take_at hx])) rfl (tle rfl (rfl) rfl (tle rfl (rfl) rfl (tle rfl (rfl) rfl tln))))) oln noS⟩
  · refine aE ?_
    repeat refine ex_seq ?_
    refine eB ?_
    have hk : l.length ≤ k := by simpa using h
    refine aS (aR ?_)
    refine oC (op_mvl rfl rfl rfl rfl) ?_
    refine oC (op_asl rfl rfl rfl rfl) ?_
    refine oN ?_
    refine aT ?_
    repeat first | refine rS ?_ | refine rB ?_
    exact finM rfl rfl (by rw [take_end hk])
theorem voters_ct (l : List Vote) (c : List Itm) : CtP Tryz.prog 178 [.v l, .v c] (.v (CList.mk (voters l c))) := by
  refine Ct.intro Tryz.func178 rfl rfl ?_
  refine aS (aR ?_)
  refine oC (oA rfl (Conv.of rfl) rfl) ?_
  refine oN ?_
  refine aS (aR ?_)
  refine oC (op_mkl sl93 z3 rfl rfl (by omega) (by omega) (by omega) rfl) ?_
  refine oC (op_asl rfl rfl rfl rfl) ?_
  refine oN ?_
  refine aS (aS (aR ?_))
  refine oC (oA rfl (Conv.of rfl) rfl) ?_
  refine oN ?_
  refine aB ?_
  refine awp_loop' (fun n s => ∃ (k : Nat), ∃ (hn : n + k = 4), s = mkSt 27 [(0, .v l), (1, .v c), (5, .v (OList.mk ((([1, 2, 3, 4] : List Int).take k).filter fun n => decide (Vote.mk n c ∈ l)) true)), (6, .v ((k : Int) + 1))] []) (4) ⟨0, by omega, rfl⟩ (Le.mk rfl (tle rfl (rfl) rfl (tle rfl (rfl) rfl (tle rfl (by rfl) rfl (tle rfl (rfl) rfl tln)))) oln noS) ?_
  rintro n s ⟨k, hn, rfl⟩
  have hlen : ((([1, 2, 3, 4] : List Int).take k).filter fun n => decide (Vote.mk n c ∈ l)).length ≤ 4 := Nat.le_trans (List.length_filter_le _ _) (by simp; omega)
  refine aS (aS (aR ?_))
  refine oC (oM rfl (Conv.of rfl) rfl) ?_
  refine oC (op_leq rfl rfl rfl) ?_
  refine oN ?_
  refine aC rfl (fun h => ?_) (fun h => ?_)
  · have hk : k < 4 := by simp at h; omega
    refine aW ?_
    refine aS (aB ?_)
    refine aS (aR ?_)
    refine oC (oM rfl (Conv.of rfl) rfl) ?_
    refine oC (oM rfl (Conv.of rfl) rfl) ?_
    refine oC (oM rfl (Conv.of rfl) rfl) ?_
    refine oC (op_build (.cons f38_0 rfl (Conv.of rfl) (.cons f38_1 rfl (Conv.of rfl) (.nil _))) z38 rfl pl38 rfl) ?_
    refine oC (oL fb103 (.cons rfl (Conv.of rfl) (.cons rfl (Conv.of rfl) (.nil _))) (has_ct _ _) (aK rfl rfl (aK rfl rfl aK0)) rfl rfl) ?_
    refine oN ?_
    refine aC rfl (fun hb => ?_) (fun hb => ?_)
    · refine aR ?_
      refine oC (op_mvl rfl rfl rfl rfl) ?_
      refine oC (oM rfl (Conv.of rfl) rfl) ?_
      refine oC (op_bsl sl93 z3 (.cons rfl (Conv.of rfl) (.nil _)) rfl (by decide) rfl) ?_
      refine oC (op_app sl93 z3 ul93 rfl rfl rfl (by (simp only [List.length_singleton]; omega)) (by (simp only [List.length_singleton]; omega)) rfl rfl) ?_
      refine oC (op_asl rfl rfl rfl rfl) ?_
      refine oN ?_
      refine aR ?_
      refine oC (oM rfl (Conv.of rfl) rfl) ?_
      refine oC (oP rfl rfl rfl (by omega)) ?_
      refine oC (oA rfl (Conv.of rfl) rfl) ?_
      refine oN ?_
      repeat first | refine nS ?_ | refine nB ?_
      exact ⟨n - 1, _, by omega, ⟨k + 1, by omega, rfl⟩, Le.mk rfl (tle rfl (rfl) rfl (tle rfl (rfl) rfl (tle rfl (by (rw [voters_step k hk, hb]; simp)) rfl (tle rfl (rfl) rfl tln)))) oln noS⟩
    · refine aW ?_
      refine aR ?_
      refine oC (oM rfl (Conv.of rfl) rfl) ?_
      refine oC (oP rfl rfl rfl (by omega)) ?_
      refine oC (oA rfl (Conv.of rfl) rfl) ?_
      refine oN ?_
      repeat first | refine nS ?_ | refine nB ?_
      exact ⟨n - 1, _, by omega, ⟨k + 1, by omega, rfl⟩, Le.mk rfl (tle rfl (rfl) rfl (tle rfl (rfl) rfl (tle rfl (by (rw [voters_step k hk, hb]; simp)) rfl (tle rfl (rfl) rfl tln)))) oln noS⟩
  · refine aE ?_
    repeat refine ex_seq ?_
    refine eB ?_
    have hk : k = 4 := by simp at h; omega
    subst hk
    refine aS (aR ?_)
    refine oC (op_mvl rfl rfl rfl rfl) ?_
    refine oC (oM rfl (Conv.of rfl) rfl) ?_
    refine oC (oE sl93 rfl rfl) ?_
    refine oC (oM rfl (Conv.of rfl) rfl) ?_
    refine oC (oE sl93 rfl rfl) ?_
    refine oC (op_slhm sl93 rfl rfl rfl rfl (by simp)) ?_
    refine oC (oA rfl (Conv.of rfl) rfl) ?_
    refine oN ?_
    refine aT ?_
    repeat first | refine rS ?_ | refine rB ?_
    refine finP (.v rfl (Conv.of rfl)) rfl ?_
    show AV.v (CList.mk _) = _
    simp only [Int.toNat_natCast, List.take_length]; rfl
theorem sure_ct (l : List Vote) (c : List Itm) : CtP Tryz.prog 174 [.v l, .v c] (.v (sure l c)) := by
  refine Ct.intro Tryz.func174 rfl rfl ?_
  refine awp_bigL 1 rfl (fun hB => ?_)
  refine aS (aR ?_)
  refine oC (oA rfl (Conv.of rfl) rfl) ?_
  refine oN ?_
  refine aS (aS (aR ?_))
  refine oC (oA rfl (Conv.of rfl) rfl) ?_
  refine oN ?_
  refine aB ?_
  refine awp_loop' (fun n s => ∃ (k : Nat), ∃ (hn : n + k = c.length), ∃ (hall : sure l c = sureFrom l c k n), s = mkSt 19 [(0, .v l), (1, .v c), (5, .v ((k : Int) + 1))] []) (c.length) ⟨0, by omega, rfl, rfl⟩ (Le.mk rfl (tle rfl (rfl) rfl (tle rfl (rfl) rfl (tle rfl (rfl) rfl tln))) oln noS) ?_
  rintro n s ⟨k, hn, hall, rfl⟩
  refine aS (aS (aR ?_))
  refine oC (oM rfl (Conv.of rfl) rfl) ?_
  refine oC (oM rfl (Conv.of rfl) rfl) ?_
  refine oC (oE sl27 rfl rfl) ?_
  refine oC (op_leq rfl rfl rfl) ?_
  refine oN ?_
  refine aC rfl (fun h => ?_) (fun h => ?_)
  · have hlt : k < c.length := by simp at h; omega
    obtain ⟨n', rfl⟩ : ∃ n', n = n' + 1 := ⟨n - 1, by omega⟩
    refine aW ?_
    refine aS (aB ?_)
    refine aS (aR ?_)
    refine oC (oM rfl (Conv.of rfl) rfl) ?_
    refine oC (oM rfl (Conv.of rfl) rfl) ?_
    refine oC (oM rfl (Conv.of rfl) rfl) ?_
    refine oC (op_slh sl27 rfl rfl rfl (by omega)) ?_
    refine oC (oL fb178 (.cons rfl (Conv.of rfl) (.cons rfl (Conv.of rfl) (.nil _))) (voters_ct _ _) (aK rfl rfl (aK rfl rfl aK0)) rfl rfl) ?_
    refine oC (oE sl93 rfl rfl) ?_
    refine oC (oLt rfl rfl rfl) ?_
    refine oN ?_
    refine aC rfl (fun hb => ?_) (fun hb => ?_)
    · refine aS (aR ?_)
      refine oC (oA rfl (Conv.of rfl) rfl) ?_
      refine oN ?_
      refine aT ?_
      repeat first | refine rS ?_ | refine rB ?_
      refine finP (.v rfl (Conv.of rfl)) rfl ?_
      show AV.v false = _
      have hb' : ((voters l (c.take ((k : Int) + 1).toNat)).length : Int) < 3 := by simpa using hb
      rw [hall, sure_step, decide_eq_false (by rw [show ((k : Int) + 1).toNat = k + 1 by omega] at hb'; omega), Bool.false_and]
    · refine aW ?_
      refine aR ?_
      refine oC (oM rfl (Conv.of rfl) rfl) ?_
      refine oC (oP rfl rfl rfl (by omega)) ?_
      refine oC (oA rfl (Conv.of rfl) rfl) ?_
      refine oN ?_
      have hb' : 3 ≤ ((voters l (c.take ((k : Int) + 1).toNat)).length : Int) := by simpa using hb
      repeat first | refine nS ?_ | refine nB ?_
      exact ⟨n', _, by omega, ⟨k + 1, by omega, by rw [hall, sure_step, decide_eq_true (by rw [show ((k : Int) + 1).toNat = k + 1 by omega] at hb'; omega), Bool.true_and], rfl⟩, Le.mk rfl (tle rfl (rfl) rfl (tle rfl (rfl) rfl (tle rfl (rfl) rfl tln))) oln noS⟩
  · refine aE ?_
    repeat refine ex_seq ?_
    refine eB ?_
    have hk : n = 0 := by simp at h; omega
    subst hk
    refine aS (aR ?_)
    refine oC (oA rfl (Conv.of rfl) rfl) ?_
    refine oN ?_
    refine aT ?_
    repeat first | refine rS ?_ | refine rB ?_
    refine finP (.v rfl (Conv.of rfl)) rfl ?_
    show AV.v true = _
    rw [hall]; rfl
end Go.Proofs.YtmhmeppocbcmeaaGreat
