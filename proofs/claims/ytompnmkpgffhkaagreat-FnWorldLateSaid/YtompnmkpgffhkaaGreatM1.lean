/- Part 1 of the proof: texts one behind the other. -/
import Derived.ProofKit
import Derived.Laws.Cells
import Derived.Laws.CopyRow
import Derived.Laws.IdiomCopy
import Derived.Deep.WholeRow
import Derived.Deep.LoopGhost
import Derived.Orders
import Derived.Laws.Tables
import Derived.IntWalk
import Derived.Laws.Append
import Derived.Laws.AppendOwn
import Derived.Great.BuildSlice
import Derived.Great.FillDense
import Derived.Laws.StructEq
import Derived.Laws.Slices
import Derived.Laws.Cover3
import Derived.Laws.Pointers
/- A logic of abstract states over the kit's `Code.wp`: representation of plain values in memory, with a ghost owner for each cell. -/
set_option linter.unusedVariables false
set_option linter.unusedSimpArgs false
namespace Go.Wt
open Go

inductive Pl where
  | tmp (t : Nat) | obj (o : Nat) | blk (o : Nat) | ext | ret | junk | arg (k : Nat)
  deriving DecidableEq
abbrev Owner := Pl × List Nat
abbrev Owner.sub (ω : Owner) (p : List Nat) : Owner := (ω.1, ω.2 ++ p)

structure Gh where
  own : Nat → Nat → Option Owner
  hdr : Nat → Option Value

abbrev cl (w : World) (b i : Nat) : Option Value := w.cell? ⟨b, i, none⟩
abbrev fz (w : World) (b i : Nat) : Bool := w.frozen? ⟨b, i, none⟩

/-- What is shared stays as it is. -/
def Sh (G : Gh) (w : World) (G' : Gh) (w' : World) : Prop :=
  ∀ b i v, G.own b i = none → cl w b i = some v → G'.own b i = none ∧ cl w' b i = some v
/-- What `ω` owns, but below `p`, is `ω'`'s, as it is. -/
def Ow (G : Gh) (w : World) (ω : Owner) (G' : Gh) (w' : World) (ω' : Owner) (no : List Nat → Prop) : Prop :=
  ∀ b i π v, ¬ no π → G.own b i = some (ω.1, ω.2 ++ π) → cl w b i = some v →
    G'.own b i = some (ω'.1, ω'.2 ++ π) ∧ cl w' b i = some v ∧ (fz w b i = false → fz w' b i = false)
def Hm (S : List Nat) (G G' : Gh) : Prop := ∀ o ∈ S, ∀ v, G.hdr o = some v → G'.hdr o = some v

def never : List Nat → Prop := fun _ => False

theorem Sh.refl (G : Gh) (w : World) : Sh G w G w := fun _ _ _ h1 h2 => ⟨h1, h2⟩
theorem Sh.trans {G w G1 w1 G2 w2} (h : Sh G w G1 w1) (k : Sh G1 w1 G2 w2) : Sh G w G2 w2 :=
  fun b i v h1 h2 => k b i v (h b i v h1 h2).1 (h b i v h1 h2).2
theorem Ow.refl (G : Gh) (w : World) (ω : Owner) (no) : Ow G w ω G w ω no := fun _ _ _ _ _ h1 h2 => ⟨h1, h2, id⟩
theorem Hm.refl (S G) : Hm S G G := fun _ _ _ h => h
theorem Hm.sub {S T : List Nat} {G G'} (h : Hm S G G') (k : ∀ o ∈ T, o ∈ S) : Hm T G G' := fun o ho => h o (k o ho)
theorem Ow.sub {G w ω G' w' ω'} {no no' : List Nat → Prop} (h : Ow G w ω G' w' ω' no) (p : List Nat) (hn : ∀ π, no (p ++ π) → no' π) :
    Ow G w (Owner.sub ω p) G' w' (Owner.sub ω' p) no' := by
  intro b i π v hπ h1 h2
  have := h b i (p ++ π) v (fun hh => hπ (hn π hh)) (by simpa [Owner.sub, List.append_assoc] using h1) h2
  simpa [Owner.sub, List.append_assoc] using this
theorem Ow.weak {G w ω G' w' ω'} {no no' : List Nat → Prop} (h : Ow G w ω G' w' ω' no) (hn : ∀ π, no π → no' π) : Ow G w ω G' w' ω' no' :=
  fun b i π v hπ => h b i π v (fun hh => hπ (hn π hh))

/-- How a Lean value lies in cells. -/
class Enc (α : Type) where
  size : Nat
  agg : Bool
  size_pos : 0 < size
  agg_size : agg = false → size = 1
  rd : Gh → World → Owner → α → List Value → Prop
  refs : α → List Nat
  dis : α → α
  len : ∀ {G w ω x cs}, rd G w ω x cs → cs.length = size
  one : ∀ {G w ω x cs}, rd G w ω x cs → ∀ c ∈ cs, c.oneCell' = true
  mono : ∀ {G w ω G' w' ω' x cs}, Sh G w G' w' → Ow G w ω G' w' ω' never → Hm (refs x) G G' → rd G w ω x cs → rd G' w' ω' x cs
  mono_dis : ∀ {G w ω G' w' ω' x cs}, Sh G w G' w' → Hm (refs x) G G' → rd G w ω x cs → rd G' w' ω' (dis x) cs

/-- The value in a temporary. -/
def Enc.val (α : Type) [Enc α] (cs : List Value) : Value := if Enc.agg α then .agg cs.toArray else cs.headD undef

theorem Enc.val_cells {α : Type} [Enc α] {G w ω} {x : α} {cs} (h : Enc.rd G w ω x cs) : (Enc.val α cs).cells = cs.toArray := by
  unfold Enc.val
  have hl := Enc.len h
  by_cases ha : Enc.agg α = true
  · simp [ha, Value.cells]
  · simp only [ha]
    have h1 := Enc.agg_size (α := α) (by simpa using ha)
    rw [h1] at hl
    match cs, hl with
    | [c], _ =>
      have := Enc.one h c (by simp)
      cases c <;> simp_all [Value.cells, Value.oneCell']

/-- What owns nothing and names nothing. -/
class Plain (α : Type) [Enc α] : Prop where
  dis_eq : ∀ x : α, Enc.dis x = x
  refs_eq : ∀ x : α, Enc.refs x = []
theorem Plain.mono {α : Type} [Enc α] [Plain α] {G w ω G' w' ω'} {x : α} {cs} (hs : Sh G w G' w') (h : Enc.rd G w ω x cs) : Enc.rd G' w' ω' x cs := by
  have := Enc.mono_dis (ω' := ω') hs (by rw [Plain.refs_eq]; intro o ho; cases ho) h
  rwa [Plain.dis_eq] at this

/-- What owns nothing. -/
class Disl (α : Type) [Enc α] : Prop where
  dis_eq : ∀ x : α, Enc.dis x = x
instance {α : Type} [Enc α] [Plain α] : Disl α := ⟨Plain.dis_eq⟩
theorem Disl.mono {α : Type} [Enc α] [Disl α] {G w ω G' w' ω'} {x : α} {cs} (hs : Sh G w G' w') (hm : Hm (Enc.refs x) G G') (h : Enc.rd G w ω x cs) : Enc.rd G' w' ω' x cs := by
  have := Enc.mono_dis (ω' := ω') hs hm h
  rwa [Disl.dis_eq] at this

/-! ### Words of one cell -/
def EncT (α : Type) := Enc α
@[reducible] def scalarEnc {α : Type} (f : α → Value) (h1 : ∀ x, (f x).oneCell' = true) : Enc α where
  size := 1
  agg := false
  size_pos := by decide
  agg_size := fun _ => rfl
  rd := fun _ _ _ x cs => cs = [f x]
  refs := fun _ => []
  dis := fun x => x
  len := fun h => by rw [h]; rfl
  one := fun h c hc => by rw [h] at hc; simp at hc; rw [hc]; exact h1 _
  mono := fun _ _ _ h => h
  mono_dis := fun _ _ h => h

instance : Enc Int := scalarEnc (fun n => .int .i64 n) (fun _ => rfl)
instance : Enc Bool := scalarEnc (fun b => .bool b) (fun _ => rfl)
instance : Enc UInt8 := scalarEnc (fun b => .int .u8 b.toNat) (fun _ => rfl)
instance : Enc ByteArray := scalarEnc (fun s => .string s) (fun _ => rfl)
instance : Plain Int := ⟨fun _ => rfl, fun _ => rfl⟩
instance : Plain Bool := ⟨fun _ => rfl, fun _ => rfl⟩
instance : Plain UInt8 := ⟨fun _ => rfl, fun _ => rfl⟩
instance : Plain ByteArray := ⟨fun _ => rfl, fun _ => rfl⟩

/-! ### Slices -/
def ω0 : Owner := (.junk, [])
abbrev big : Nat := 4611686018427387904
/-- From an address on lie the elements, shared. -/
def Elems {α : Type} [Enc α] (G : Gh) (w : World) (a : Option Addr) (xs : List α) : Prop :=
  xs = [] ∨ ∃ b off, a = some ⟨b, off, none⟩ ∧ xs.length ≤ big ∧ ∀ i x, xs[i]? = some x → ∃ c, Enc.rd G w ω0 x c ∧
    ∀ j v, c[j]? = some v → G.own b (off + i * Enc.size α + j) = none ∧ cl w b (off + i * Enc.size α + j) = some v

theorem Elems.mono {α : Type} [Enc α] [Plain α] {G w G' w' a} {xs : List α} (hs : Sh G w G' w') (h : Elems G w a xs) : Elems G' w' a xs := by
  rcases h with h | ⟨b, off, ha, hB, h⟩
  · exact .inl h
  · refine .inr ⟨b, off, ha, hB, fun i x hx => ?_⟩
    obtain ⟨c, hc, hm⟩ := h i x hx
    exact ⟨c, Plain.mono hs hc, fun j v hj => hs _ _ _ (hm j v hj).1 (hm j v hj).2⟩

theorem oneCell_slice (a : Option Addr) (n c : Nat) : (Value.slice a n c).oneCell' = true := rfl

instance {α : Type} [Enc α] [Plain α] : Enc (List α) where
  size := 1
  agg := false
  size_pos := by decide
  agg_size := fun _ => rfl
  rd := fun G w _ xs cs => ∃ a cap, cs = [.slice a xs.length cap] ∧ xs.length ≤ cap ∧ Elems G w a xs
  refs := fun _ => []
  dis := fun x => x
  len := fun ⟨_, _, h, _⟩ => by rw [h]; rfl
  one := fun ⟨_, _, h, _⟩ c hc => by rw [h] at hc; simp at hc; rw [hc]; rfl
  mono := fun hs _ _ ⟨a, cap, h1, h2, h3⟩ => ⟨a, cap, h1, h2, h3.mono hs⟩
  mono_dis := fun hs _ ⟨a, cap, h1, h2, h3⟩ => ⟨a, cap, h1, h2, h3.mono hs⟩
instance {α : Type} [Enc α] [Plain α] : Plain (List α) := ⟨fun _ => rfl, fun _ => rfl⟩

/-- A slice that has no room behind its end. -/
structure CList (α : Type) where
  l : List α
instance {α : Type} [Enc α] [Plain α] : Enc (CList α) where
  size := 1
  agg := false
  size_pos := by decide
  agg_size := fun _ => rfl
  rd := fun G w _ xs cs => ∃ a, cs = [.slice a xs.l.length xs.l.length] ∧ Elems G w a xs.l
  refs := fun _ => []
  dis := fun x => x
  len := fun ⟨_, h, _⟩ => by rw [h]; rfl
  one := fun ⟨_, h, _⟩ c hc => by rw [h] at hc; simp at hc; rw [hc]; rfl
  mono := fun hs _ _ ⟨a, h1, h3⟩ => ⟨a, h1, h3.mono hs⟩
  mono_dis := fun hs _ ⟨a, h1, h3⟩ => ⟨a, h1, h3.mono hs⟩
instance {α : Type} [Enc α] [Plain α] : Plain (CList α) := ⟨fun _ => rfl, fun _ => rfl⟩

/-- A slice whose room behind its end is its place's own, if `own`. -/
structure OList (α : Type) where
  l : List α
  own : Bool
def Tail (G : Gh) (w : World) (ω : Owner) (a : Option Addr) (lo hi : Nat) : Prop :=
  hi ≤ lo ∨ ∃ b off, a = some ⟨b, off, none⟩ ∧ ∀ j, lo ≤ j → j < hi → G.own b (off + j) = some ω ∧ (∃ v, cl w b (off + j) = some v) ∧ fz w b (off + j) = false
theorem Tail.mono {G w ω G' w' ω' a lo hi} (ho : Ow G w ω G' w' ω' never) (h : Tail G w ω a lo hi) : Tail G' w' ω' a lo hi := by
  rcases h with h | ⟨b, off, ha, h⟩
  · exact .inl h
  · refine .inr ⟨b, off, ha, fun j h1 h2 => ?_⟩
    obtain ⟨k1, ⟨v, k2⟩, k3⟩ := h j h1 h2
    have := ho b (off + j) [] v id (by simpa using k1) k2
    exact ⟨by simpa using this.1, ⟨v, this.2.1⟩, this.2.2 k3⟩
instance {α : Type} [Enc α] [Plain α] : Enc (OList α) where
  size := 1
  agg := false
  size_pos := by decide
  agg_size := fun _ => rfl
  rd := fun G w ω xs cs => ∃ a cap, cs = [.slice a xs.l.length cap] ∧ xs.l.length ≤ cap ∧ Elems G w a xs.l ∧
    (xs.own = true → Tail G w ω a (xs.l.length * Enc.size α) (cap * Enc.size α))
  refs := fun _ => []
  dis := fun x => ⟨x.l, false⟩
  len := fun ⟨_, _, h, _⟩ => by rw [h]; rfl
  one := fun ⟨_, _, h, _⟩ c hc => by rw [h] at hc; simp at hc; rw [hc]; rfl
  mono := fun hs ho _ ⟨a, cap, h1, h2, h3, h4⟩ => ⟨a, cap, h1, h2, h3.mono hs, fun h => (h4 h).mono ho⟩
  mono_dis := fun hs _ ⟨a, cap, h1, h2, h3, h4⟩ => ⟨a, cap, h1, h2, h3.mono hs, fun h => by cases h⟩

/-- Nothing, or the slice that is object `o`. -/
inductive NRef where
  | nil
  | ref (o : Nat)
instance : Enc NRef where
  size := 1
  agg := false
  size_pos := by decide
  agg_size := fun _ => rfl
  rd := fun G _ _ r cs => match r with
    | .nil => cs = [.slice none 0 0]
    | .ref o => ∃ a n c, cs = [.slice a n c] ∧ G.hdr o = some (.slice a n c)
  refs := fun r => match r with
    | .nil => []
    | .ref o => [o]
  dis := fun r => r
  len := fun {G w ω x cs} h => by
    cases x with
    | nil => rw [show cs = _ from h]; rfl
    | ref o => obtain ⟨_, _, _, h, _⟩ := h; rw [h]; rfl
  one := fun {G w ω x cs} h c hc => by
    cases x with
    | nil => rw [show cs = _ from h] at hc; simp at hc; rw [hc]; rfl
    | ref o => obtain ⟨_, _, _, h, _⟩ := h; rw [h] at hc; simp at hc; rw [hc]; rfl
  mono := fun {G w ω G' w' ω' x cs} _ _ hm h => by
    cases x with
    | nil => exact h
    | ref o => obtain ⟨a, n, c, h1, h2⟩ := h; exact ⟨a, n, c, h1, hm _ (by simp) _ h2⟩
  mono_dis := fun {G w ω G' w' ω' x cs} _ hm h => by
    cases x with
    | nil => exact h
    | ref o => obtain ⟨a, n, c, h1, h2⟩ := h; exact ⟨a, n, c, h1, hm _ (by simp) _ h2⟩
instance : Disl NRef := ⟨fun _ => rfl⟩

/-- The slice that is object `o`. -/
structure ARef where
  o : Nat
instance : Enc ARef where
  size := 1
  agg := false
  size_pos := by decide
  agg_size := fun _ => rfl
  rd := fun G _ _ r cs => ∃ a n c, cs = [.slice a n c] ∧ G.hdr r.o = some (.slice a n c)
  refs := fun r => [r.o]
  dis := fun r => r
  len := fun ⟨_, _, _, h, _⟩ => by rw [h]; rfl
  one := fun ⟨_, _, _, h, _⟩ c hc => by rw [h] at hc; simp at hc; rw [hc]; rfl
  mono := fun _ _ hm ⟨a, n, c, h1, h2⟩ => ⟨a, n, c, h1, hm _ (by simp) _ h2⟩
  mono_dis := fun _ hm ⟨a, n, c, h1, h2⟩ => ⟨a, n, c, h1, hm _ (by simp) _ h2⟩

/-! ### Pairs, structs -/
section
variable {α β : Type} [Enc α] [Enc β]
def rdPair (G : Gh) (w : World) (ω : Owner) (p : α × β) (cs : List Value) : Prop :=
  ∃ c1 c2, cs = c1 ++ c2 ∧ Enc.rd G w (Owner.sub ω [0]) p.1 c1 ∧ Enc.rd G w (Owner.sub ω [1]) p.2 c2
instance : Enc (α × β) where
  size := Enc.size α + Enc.size β
  agg := true
  size_pos := by have := Enc.size_pos (α := α); omega
  agg_size := fun h => by cases h
  rd := rdPair
  refs := fun p => Enc.refs p.1 ++ Enc.refs p.2
  dis := fun p => (Enc.dis p.1, Enc.dis p.2)
  len := fun ⟨_, _, h, h1, h2⟩ => by rw [h, List.length_append, Enc.len h1, Enc.len h2]
  one := fun ⟨_, _, h, h1, h2⟩ c hc => by
    rw [h] at hc
    rcases List.mem_append.1 hc with hc | hc
    · exact Enc.one h1 c hc
    · exact Enc.one h2 c hc
  mono := fun hs ho hm ⟨c1, c2, h, h1, h2⟩ => ⟨c1, c2, h,
    Enc.mono hs (ho.sub [0] fun _ h => h) (hm.sub fun o ho => List.mem_append_left _ ho) h1,
    Enc.mono hs (ho.sub [1] fun _ h => h) (hm.sub fun o ho => List.mem_append_right _ ho) h2⟩
  mono_dis := fun hs hm ⟨c1, c2, h, h1, h2⟩ => ⟨c1, c2, h,
    Enc.mono_dis hs (hm.sub fun o ho => List.mem_append_left _ ho) h1,
    Enc.mono_dis hs (hm.sub fun o ho => List.mem_append_right _ ho) h2⟩
instance [Plain α] [Plain β] : Plain (α × β) :=
  ⟨fun x => by show (Enc.dis x.1, Enc.dis x.2) = x; rw [Plain.dis_eq, Plain.dis_eq], fun x => by show Enc.refs x.1 ++ Enc.refs x.2 = []; rw [Plain.refs_eq, Plain.refs_eq]; rfl⟩
end

instance {α β : Type} [Enc α] [Enc β] [Disl α] [Disl β] : Disl (α × β) :=
  ⟨fun x => by show (Enc.dis x.1, Enc.dis x.2) = x; rw [Disl.dis_eq, Disl.dis_eq]⟩
/-- A struct that is laid as a pair. -/
def isoEnc {σ τ : Type} [Enc τ] (f : σ → τ) (g : τ → σ) (fg : ∀ y, f (g y) = y) (ag : Bool) (hag : ag = false → Enc.size τ = 1) : EncT σ where
  size := Enc.size τ
  agg := ag
  size_pos := Enc.size_pos
  agg_size := hag
  rd := fun G w ω x cs => Enc.rd G w ω (f x) cs
  refs := fun x => Enc.refs (f x)
  dis := fun x => g (Enc.dis (f x))
  len := fun h => Enc.len h
  one := fun h => Enc.one h
  mono := fun hs ho hm h => Enc.mono hs ho hm h
  mono_dis := fun hs hm h => by rw [fg]; exact Enc.mono_dis hs hm h

/-! ### Places in a value -/
structure IsLens {α γ : Type} [Enc α] [Enc γ] (get : α → γ) (set : α → γ → α) (off : Nat) (pth : List Nat) : Prop where
  fits : off + Enc.size γ ≤ Enc.size α
  rd_get : ∀ {G w ω x cs}, Enc.rd G w ω x cs → Enc.rd G w (Owner.sub ω pth) (get x) ((cs.drop off).take (Enc.size γ))
  rd_set : ∀ {G w ω x cs G' w' ω' y ds}, Enc.rd G w ω x cs → Enc.rd G' w' (Owner.sub ω' pth) y ds → Sh G w G' w' → Ow G w ω G' w' ω' (fun π => pth <+: π) →
    Hm (Enc.refs x) G G' → Enc.rd G' w' ω' (set x y) (cs.take off ++ ds ++ cs.drop (off + Enc.size γ))
  refs_get : ∀ x o, o ∈ Enc.refs (get x) → o ∈ Enc.refs x

theorem IsLens.whole (α : Type) [Enc α] : IsLens (fun x : α => x) (fun _ y => y) 0 [] where
  fits := by omega
  rd_get := fun {G w ω x cs} h => by
    have := Enc.len h
    simpa [Owner.sub, ← this] using h
  rd_set := fun {G w ω x cs G' w' ω' y ds} h k _ _ _ => by
    have := Enc.len h
    have e : cs.drop (0 + Enc.size α) = [] := by rw [← this]; simp
    rw [e]
    simpa [Owner.sub] using k
  refs_get := fun _ _ h => h

theorem IsLens.fst (α β : Type) [Enc α] [Enc β] : IsLens (fun x : α × β => x.1) (fun x y => (y, x.2)) 0 [0] where
  fits := by show 0 + Enc.size α ≤ Enc.size α + Enc.size β; omega
  rd_get := fun {G w ω x cs} h => by
    obtain ⟨c1, c2, rfl, h1, h2⟩ := h
    have := Enc.len h1
    simpa [← this] using h1
  rd_set := fun {G w ω x cs G' w' ω' y ds} h k hs ho hm => by
    obtain ⟨c1, c2, rfl, h1, h2⟩ := h
    refine ⟨ds, c2, ?_, k, Enc.mono hs (ho.sub [1] ?_) (hm.sub fun o ho => List.mem_append_right _ ho) h2⟩
    · have := Enc.len h1
      simp [← this]
    · intro π hp
      simp at hp
  refs_get := fun x o h => List.mem_append_left _ h
theorem IsLens.snd (α β : Type) [Enc α] [Enc β] : IsLens (fun x : α × β => x.2) (fun x y => (x.1, y)) (Enc.size α) [1] where
  fits := by show Enc.size α + Enc.size β ≤ Enc.size α + Enc.size β; omega
  rd_get := fun {G w ω x cs} h => by
    obtain ⟨c1, c2, rfl, h1, h2⟩ := h
    have e1 := Enc.len h1
    have e2 := Enc.len h2
    rw [← e1, List.drop_left, ← e2, List.take_length]
    exact h2
  rd_set := fun {G w ω x cs G' w' ω' y ds} h k hs ho hm => by
    obtain ⟨c1, c2, rfl, h1, h2⟩ := h
    have e1 := Enc.len h1
    have e2 := Enc.len h2
    refine ⟨c1, ds, ?_, Enc.mono hs (ho.sub [0] ?_) (hm.sub fun o ho => List.mem_append_left _ ho) h1, k⟩
    · rw [← e1, List.take_left, ← e2, ← List.length_append, List.drop_length, List.append_nil]
    · intro π hp
      simp at hp
  refs_get := fun x o h => List.mem_append_right _ h

theorem splice_splice (cs ds : List Value) (o1 s1 o2 s2 : Nat) (h1 : o1 + s1 ≤ cs.length) (h2 : o2 + s2 ≤ s1) :
    cs.take o1 ++ (((cs.drop o1).take s1).take o2 ++ ds ++ ((cs.drop o1).take s1).drop (o2 + s2)) ++ cs.drop (o1 + s1) =
    cs.take (o1 + o2) ++ ds ++ cs.drop (o1 + o2 + s2) := by
  have e1 : ((cs.drop o1).take s1).take o2 = (cs.drop o1).take o2 := by rw [List.take_take, Nat.min_eq_left (by omega)]
  have e2 : cs.take (o1 + o2) = cs.take o1 ++ (cs.drop o1).take o2 := by rw [List.take_add]
  have e3 : ((cs.drop o1).take s1).drop (o2 + s2) ++ cs.drop (o1 + s1) = cs.drop (o1 + o2 + s2) := by
    rw [List.drop_take, List.drop_drop]
    have : cs.drop (o1 + s1) = (cs.drop (o1 + (o2 + s2))).drop (s1 - (o2 + s2)) := by rw [List.drop_drop]; congr 1; omega
    rw [this, List.take_append_drop]; congr 1; omega
  rw [e1, e2, ← e3]
  simp [List.append_assoc]

theorem IsLens.comp {α β γ : Type} [Enc α] [Enc β] [Enc γ] {g1 : α → β} {s1 o1 p1} {g2 : β → γ} {s2 o2 p2} (L : IsLens g1 s1 o1 p1) (M : IsLens g2 s2 o2 p2) :
    IsLens (fun x => g2 (g1 x)) (fun x y => s1 x (s2 (g1 x) y)) (o1 + o2) (p1 ++ p2) where
  fits := by have := L.fits; have := M.fits; omega
  rd_get := fun {G w ω x cs} h => by
    have h1 := M.rd_get (L.rd_get h)
    have f1 := L.fits
    have f2 := M.fits
    have e : (((cs.drop o1).take (Enc.size β)).drop o2).take (Enc.size γ) = (cs.drop (o1 + o2)).take (Enc.size γ) := by
      rw [List.drop_take, List.take_take, List.drop_drop, Nat.min_eq_left (by omega)]
    rw [e] at h1
    simpa [Owner.sub, List.append_assoc] using h1
  rd_set := fun {G w ω x cs G' w' ω' y ds} h k hs ho hm => by
    have f1 := L.fits
    have f2 := M.fits
    have hl := Enc.len h
    have hg := L.rd_get h
    have k' : Enc.rd G' w' (Owner.sub (Owner.sub ω' p1) p2) y ds := by simpa [Owner.sub, List.append_assoc] using k
    have h1 := M.rd_set hg k' hs (ho.sub p1 (fun π hp => (List.prefix_append_right_inj _).1 hp)) (hm.sub fun o ho => L.refs_get x o ho)
    have h2 := L.rd_set h h1 hs (ho.weak fun π hp => (List.prefix_append _ _).trans hp) hm
    rw [splice_splice cs ds o1 (Enc.size β) o2 (Enc.size γ) (by omega) f2] at h2
    exact h2
  refs_get := fun x o h => L.refs_get x o (M.refs_get _ o h)

/-- A struct's places are its pair's. -/
theorem IsLens.iso {σ τ γ : Type} [Enc τ] [Enc γ] {f : σ → τ} {g : τ → σ} {fg : ∀ y, f (g y) = y} {ag hag} {gt : τ → γ} {st off pth} (L : IsLens gt st off pth) {get : σ → γ} {set : σ → γ → σ}
    (hg : ∀ x, get x = gt (f x)) (hs : ∀ x y, f (set x y) = st (f x) y) : @IsLens σ γ (isoEnc f g fg ag hag) _ get set off pth :=
  @IsLens.mk σ γ (isoEnc f g fg ag hag) _ get set off pth L.fits
    (fun {G w ω x cs} h => by rw [hg]; exact L.rd_get h)
    (fun {G w ω x cs G' w' ω' y ds} h k k1 k2 k3 => by show Enc.rd G' w' ω' (f (set x y)) _; rw [hs]; exact L.rd_set h k k1 k2 k3)
    (fun x o h => L.refs_get (f x) o (by rw [← hg]; exact h))

end Go.Wt

/- Abstract states: what the temporaries and the local objects hold; what it is for code to go from one to others. -/
set_option linter.unusedVariables false
set_option linter.unusedSimpArgs false
namespace Go.Wt
open Go

/-- Parts of a result or of a function value. -/
inductive FV : Type 1
  | v {α : Type} [Enc α] (x : α)
  | box (o : Nat) {α γ : Type} [Enc α] [Enc γ] {get : α → γ} {set : α → γ → α} {off : Nat} {pth : List Nat} (L : IsLens get set off pth)
/-- What a temporary holds. -/
inductive AV : Type 1
  | nil
  | nilp
  | und
  | v {α : Type} [Enc α] (x : α)
  | tup (xs : List FV)
  | box (o : Nat) {α γ : Type} [Enc α] [Enc γ] {get : α → γ} {set : α → γ → α} {off : Nat} {pth : List Nat} (L : IsLens get set off pth)
  | elm (o : Nat) (i : Nat) {α γ : Type} [Enc α] [Enc γ] {get : α → γ} {set : α → γ → α} {off : Nat} {pth : List Nat} (L : IsLens get set off pth)
  | ro {γ : Type} [Enc γ] [Plain γ] (y : γ)
  | fn (f : Nat) (a c : List FV)
/-- A local object: a variable, or a row that is written in place. -/
inductive Obj : Type 1
  | free
  | dead
  | cell {α : Type} [Enc α] (x : α)
  | arr {α : Type} [Enc α] (xs : List α)

def FV.av : FV → AV
  | @FV.v _ _ x => .v x
  | @FV.box o _ _ _ _ _ _ off _ L => .box o L
def FV.dis : FV → FV
  | @FV.v _ _ x => .v (Enc.dis x)
  | @FV.box o _ _ _ _ _ _ off _ L => .box o L
def AV.dis : AV → AV
  | @AV.v _ _ x => .v (Enc.dis x)
  | .tup xs => .tup (xs.map FV.dis)
  | .fn f a c => .fn f (a.map FV.dis) (c.map FV.dis)
  | x => x
def FV.refs : FV → List Nat
  | @FV.v _ _ x => Enc.refs x
  | @FV.box o _ _ _ _ _ _ _ _ _ => [o]
def AV.refs : AV → List Nat
  | @AV.v _ _ x => Enc.refs x
  | .tup xs => xs.flatMap FV.refs
  | @AV.box o _ _ _ _ _ _ _ _ _ => [o]
  | @AV.elm o _ _ _ _ _ _ _ _ _ _ => [o]
  | .fn _ a c => a.flatMap FV.refs ++ c.flatMap FV.refs
  | _ => []

def RelF (G : Gh) (w : World) (ω : Owner) : FV → Value → Prop
  | @FV.v α _ x, u => ∃ cs, Enc.rd G w ω x cs ∧ u = Enc.val α cs
  | @FV.box o _ _ _ _ _ _ off _ L, u => ∃ b, G.hdr o = some (.pointer (some ⟨b, 0, none⟩)) ∧ u = .pointer (some ⟨b, off, none⟩)
def RelFs (G : Gh) (w : World) (ω : Owner) : Nat → List FV → List Value → Prop
  | _, [], us => us = []
  | k, x :: xs, us => ∃ u r, us = u :: r ∧ RelF G w (Owner.sub ω [k]) x u ∧ RelFs G w ω (k + 1) xs r
def RelV (G : Gh) (w : World) (ω : Owner) : AV → Value → Prop
  | .nil, u => u = .slice none 0 0
  | .nilp, u => u = .pointer none
  | .und, u => u = undef
  | @AV.v α _ x, u => ∃ cs, Enc.rd G w ω x cs ∧ u = Enc.val α cs
  | .tup xs, u => ∃ us, u = .tuple us.toArray ∧ RelFs G w ω 0 xs us
  | @AV.box o _ _ _ _ _ _ off _ _, u => ∃ b, G.hdr o = some (.pointer (some ⟨b, 0, none⟩)) ∧ u = .pointer (some ⟨b, off, none⟩)
  | @AV.elm o i α γ _ _ _ _ off _ _, u => ∃ b n c, G.hdr o = some (.slice (some ⟨b, 0, none⟩) n c) ∧ u = .pointer (some ⟨b, i * Enc.size α + off, none⟩)
  | @AV.ro γ _ _ y, u => ∃ b off cs, u = .pointer (some ⟨b, off, none⟩) ∧ Enc.rd G w ω0 y cs ∧ ∀ j v, cs[j]? = some v → G.own b (off + j) = none ∧ cl w b (off + j) = some v
  | .fn f a c, u => ∃ us vs, u = .func (.func f) us.toArray vs.toArray ∧ RelFs G w ω 0 a us ∧ RelFs G w ω 1000 c vs

section mono
variable {G G' : Gh} {w w' : World} {ω ω' : Owner}
theorem RelF.mono {x u} (hs : Sh G w G' w') (ho : Ow G w ω G' w' ω' never) (hm : Hm (FV.refs x) G G') (h : RelF G w ω x u) : RelF G' w' ω' x u := by
  cases x with
  | v x => obtain ⟨cs, h1, h2⟩ := h; exact ⟨cs, Enc.mono hs ho hm h1, h2⟩
  | box o L => obtain ⟨b, h1, h2⟩ := h; exact ⟨b, hm o (by simp [FV.refs]) _ h1, h2⟩
theorem RelF.mono_dis {x u} (hs : Sh G w G' w') (hm : Hm (FV.refs x) G G') (h : RelF G w ω x u) : RelF G' w' ω' x.dis u := by
  cases x with
  | v x => obtain ⟨cs, h1, h2⟩ := h; exact ⟨cs, Enc.mono_dis hs hm h1, h2⟩
  | box o L => obtain ⟨b, h1, h2⟩ := h; exact ⟨b, hm o (by simp [FV.refs]) _ h1, h2⟩
theorem RelFs.mono (hs : Sh G w G' w') (ho : Ow G w ω G' w' ω' never) : ∀ {k xs us}, Hm (xs.flatMap FV.refs) G G' → RelFs G w ω k xs us → RelFs G' w' ω' k xs us
  | _, [], _, _, h => h
  | k, x :: xs, _, hm, ⟨u, r, h1, h2, h3⟩ => ⟨u, r, h1, h2.mono hs (ho.sub [k] fun _ h => h) (hm.sub fun o ho => by simp only [List.flatMap_cons, List.mem_append]; exact .inl ho), RelFs.mono hs ho (hm.sub fun o ho => by simp only [List.flatMap_cons, List.mem_append]; exact .inr ho) h3⟩
theorem RelFs.mono_dis (hs : Sh G w G' w') : ∀ {k xs us}, Hm (xs.flatMap FV.refs) G G' → RelFs G w ω k xs us → RelFs G' w' ω' k (xs.map FV.dis) us
  | _, [], _, _, h => h
  | k, x :: xs, _, hm, ⟨u, r, h1, h2, h3⟩ => ⟨u, r, h1, h2.mono_dis hs (hm.sub fun o ho => by simp only [List.flatMap_cons, List.mem_append]; exact .inl ho), RelFs.mono_dis hs (hm.sub fun o ho => by simp only [List.flatMap_cons, List.mem_append]; exact .inr ho) h3⟩
theorem RelV.mono {x u} (hs : Sh G w G' w') (ho : Ow G w ω G' w' ω' never) (hm : Hm (AV.refs x) G G') (h : RelV G w ω x u) : RelV G' w' ω' x u := by
  cases x with
  | nil => exact h
  | nilp => exact h
  | und => exact h
  | v x => obtain ⟨cs, h1, h2⟩ := h; exact ⟨cs, Enc.mono hs ho hm h1, h2⟩
  | tup xs => obtain ⟨us, h1, h2⟩ := h; exact ⟨us, h1, h2.mono hs ho hm⟩
  | box o L => obtain ⟨b, h1, h2⟩ := h; exact ⟨b, hm o (by simp [AV.refs]) _ h1, h2⟩
  | elm o i L => obtain ⟨b, n, c, h1, h2⟩ := h; exact ⟨b, n, c, hm o (by simp [AV.refs]) _ h1, h2⟩
  | ro y => obtain ⟨b, off, cs, h1, h2, h3⟩ := h; exact ⟨b, off, cs, h1, Plain.mono hs h2, fun j v hj => hs _ _ _ (h3 j v hj).1 (h3 j v hj).2⟩
  | fn f a c =>
    obtain ⟨us, vs, h1, h2, h3⟩ := h
    exact ⟨us, vs, h1, h2.mono hs ho (hm.sub fun o ho => List.mem_append_left _ ho), h3.mono hs ho (hm.sub fun o ho => List.mem_append_right _ ho)⟩
theorem RelV.mono_dis {x u} (hs : Sh G w G' w') (hm : Hm (AV.refs x) G G') (h : RelV G w ω x u) : RelV G' w' ω' x.dis u := by
  cases x with
  | nil => exact h
  | nilp => exact h
  | und => exact h
  | v x => obtain ⟨cs, h1, h2⟩ := h; exact ⟨cs, Enc.mono_dis hs hm h1, h2⟩
  | tup xs => obtain ⟨us, h1, h2⟩ := h; exact ⟨us, h1, h2.mono_dis hs hm⟩
  | box o L => obtain ⟨b, h1, h2⟩ := h; exact ⟨b, hm o (by simp [AV.refs]) _ h1, h2⟩
  | elm o i L => obtain ⟨b, n, c, h1, h2⟩ := h; exact ⟨b, n, c, hm o (by simp [AV.refs]) _ h1, h2⟩
  | ro y => obtain ⟨b, off, cs, h1, h2, h3⟩ := h; exact ⟨b, off, cs, h1, Plain.mono hs h2, fun j v hj => hs _ _ _ (h3 j v hj).1 (h3 j v hj).2⟩
  | fn f a c =>
    obtain ⟨us, vs, h1, h2, h3⟩ := h
    exact ⟨us, vs, h1, h2.mono_dis hs (hm.sub fun o ho => List.mem_append_left _ ho), h3.mono_dis hs (hm.sub fun o ho => List.mem_append_right _ ho)⟩
end mono

/-! ### Objects -/
def blkOf : Value → Option Nat
  | .pointer (some a) => some a.block
  | .slice (some a) _ _ => some a.block
  | _ => none
def RelO (G : Gh) (w : World) (o : Nat) : Obj → Prop
  | .free => G.hdr o = none
  | .dead => True
  | @Obj.cell α _ x => ∃ (b : Nat) (cs : List Value) (e : TypeId), G.hdr o = some (.pointer (some ⟨b, 0, none⟩)) ∧ w.heap[b]? = some (.cells cs.toArray e (0, 0)) ∧ Enc.rd G w (.obj o, []) x cs ∧
      ∀ i, i < cs.length → G.own b i = some (.blk o, [])
  | @Obj.arr α _ xs => ∃ (b cap : Nat) (cs : List Value) (e : TypeId), G.hdr o = some (.slice (some ⟨b, 0, none⟩) xs.length cap) ∧ w.heap[b]? = some (.cells cs.toArray e (0, 0)) ∧ xs.length ≤ cap ∧
      cap * Enc.size α ≤ cs.length ∧ (∀ i x, xs[i]? = some x → ∃ c, Enc.rd G w (.obj o, [i]) x c ∧ ∀ j v, c[j]? = some v → cs[i * Enc.size α + j]? = some v) ∧
      ∀ i, i < cs.length → G.own b i = some (.blk o, [])

structure St where
  n : Nat
  tm : Nat → Option AV
  ob : Nat → Obj

/-- `none`: nothing is known. -/
def RelT (G : Gh) (w : World) (ω : Owner) : Option AV → Value → Prop
  | none, _ => True
  | some x, u => RelV G w ω x u
def refsT : Option AV → List Nat
  | none => []
  | some x => x.refs
theorem RelT.mono {G G' : Gh} {w w' : World} {ω ω' : Owner} {x u} (hs : Sh G w G' w') (ho : Ow G w ω G' w' ω' never) (hm : Hm (refsT x) G G') (h : RelT G w ω x u) : RelT G' w' ω' x u := by
  cases x with
  | none => trivial
  | some x => exact RelV.mono hs ho hm h
structure RelSt (G : Gh) (w : World) (a : Act) (st : St) : Prop where
  defers : a.defers = []
  size : a.tmps.size = st.n
  tmps : ∀ t, RelT G w (.tmp t, []) (st.tm t) (a.tmps.getD t undef)
  objs : ∀ o, RelO G w o (st.ob o)

/-- What a stretch of code leaves of what isn't its own. -/
structure Keep (S : Nat → Prop) (G : Gh) (w : World) (G' : Gh) (w' : World) : Prop where
  os : w'.os = w.os
  tape : w'.tape = w.tape
  output : w'.output = w.output
  size : w.heap.size ≤ w'.heap.size
  cell : ∀ b i v, (G.own b i = none ∨ ∃ π, G.own b i = some (.ext, π)) → cl w b i = some v → G'.own b i = G.own b i ∧ cl w' b i = some v ∧ fz w' b i = fz w b i
  block : ∀ b, b < w.heap.size → (∀ i v, cl w b i = some v → G.own b i = none ∨ ∃ π, G.own b i = some (.ext, π)) → w'.heap[b]? = w.heap[b]?
  hdr : ∀ o v, S o → G.hdr o = some v → G'.hdr o = some v

theorem Keep.refl (S G w) : Keep S G w G w := ⟨rfl, rfl, rfl, Nat.le_refl _, fun _ _ _ _ h => ⟨rfl, h, rfl⟩, fun _ _ _ => rfl, fun _ _ _ h => h⟩
theorem cl_of_block {w w' : World} {b : Nat} (h : w'.heap[b]? = w.heap[b]?) (i : Nat) : cl w' b i = cl w b i := by simp [World.cell?, h]
theorem fz_of_block {w w' : World} {b : Nat} (h : w'.heap[b]? = w.heap[b]?) (i : Nat) : fz w' b i = fz w b i := by simp [World.frozen?, h]
theorem lt_of_cl {w : World} {b i : Nat} {v} (h : cl w b i = some v) : b < w.heap.size := by
  rcases Nat.lt_or_ge b w.heap.size with h' | h'
  · exact h'
  · simp [World.cell?, Array.getElem?_eq_none h'] at h
theorem Keep.trans {S G w G1 w1 G2 w2} (h : Keep S G w G1 w1) (k : Keep S G1 w1 G2 w2) : Keep S G w G2 w2 where
  os := k.os.trans h.os
  tape := k.tape.trans h.tape
  output := k.output.trans h.output
  size := Nat.le_trans h.size k.size
  cell := fun b i v ho hc => by
    obtain ⟨a1, a2, a3⟩ := h.cell b i v ho hc
    obtain ⟨b1, b2, b3⟩ := k.cell b i v (by rw [a1]; exact ho) a2
    exact ⟨b1.trans a1, b2, b3.trans a3⟩
  block := fun b hb ho => by
    have h1 := h.block b hb ho
    rw [← h1]
    refine k.block b (Nat.lt_of_lt_of_le hb h.size) fun i v hc => ?_
    rw [cl_of_block h1] at hc
    rw [(h.cell b i v (ho i v hc) hc).1]
    exact ho i v hc
  hdr := fun o v hS hv => k.hdr o v hS (h.hdr o v hS hv)
theorem Keep.sh {S G w G' w'} (h : Keep S G w G' w') : Sh G w G' w' := fun b i v h1 h2 => by
  obtain ⟨a1, a2, _⟩ := h.cell b i v (.inl h1) h2
  exact ⟨a1.trans h1, a2⟩
theorem Keep.ow_ext {S G w G' w'} (h : Keep S G w G' w') (π : List Nat) : Ow G w (.ext, π) G' w' (.ext, π) never := fun b i ρ v _ h1 h2 => by
  obtain ⟨a1, a2, a3⟩ := h.cell b i v (.inr ⟨_, h1⟩) h2
  exact ⟨a1.trans h1, a2, fun hf => a3.trans hf⟩

/-- What keeps an object. -/
structure PresO (G : Gh) (w : World) (G' : Gh) (w' : World) (o : Nat) : Prop where
  hdr : G'.hdr o = G.hdr o
  block : ∀ b, (G.hdr o).bind blkOf = some b → b < w.heap.size → w'.heap[b]? = w.heap[b]? ∧ ∀ i, G.own b i = some (.blk o, []) → G'.own b i = some (.blk o, [])
  ow : Ow G w (.obj o, []) G' w' (.obj o, []) never
def HmAll (G G' : Gh) : Prop := ∀ o v, G.hdr o = some v → G'.hdr o = some v
theorem HmAll.on {G G'} (h : HmAll G G') (S) : Hm S G G' := fun o _ v hv => h o v hv
def Obj.refs : Obj → List Nat → Prop
  | @Obj.cell _ _ x, S => ∀ o ∈ Enc.refs x, o ∈ S
  | @Obj.arr _ _ xs, S => ∀ x ∈ xs, ∀ o ∈ Enc.refs x, o ∈ S
  | _, _ => True
theorem lt_of_heap {w : World} {b : Nat} {x} (h : w.heap[b]? = some x) : b < w.heap.size := by
  rcases Nat.lt_or_ge b w.heap.size with h' | h'
  · exact h'
  · simp [Array.getElem?_eq_none h'] at h
theorem RelO.pres {G w G' w' o x} {S : List Nat} (hs : Sh G w G' w') (hm : Hm S G G') (hr : x.refs S) (hp : PresO G w G' w' o) (h : RelO G w o x) : RelO G' w' o x := by
  cases x with
  | free => exact hp.hdr.trans h
  | dead => trivial
  | cell x =>
    obtain ⟨b, cs, e, h1, h2, h3, h4⟩ := h
    obtain ⟨k1, k2⟩ := hp.block b (by rw [h1]; rfl) (lt_of_heap h2)
    exact ⟨b, cs, e, hp.hdr.trans h1, k1.trans h2, Enc.mono hs hp.ow (hm.sub hr) h3, fun i hi => k2 i (h4 i hi)⟩
  | arr xs =>
    obtain ⟨b, cap, cs, e, h1, h2, h3, h4, h5, h6⟩ := h
    obtain ⟨k1, k2⟩ := hp.block b (by rw [h1]; rfl) (lt_of_heap h2)
    refine ⟨b, cap, cs, e, hp.hdr.trans h1, k1.trans h2, h3, h4, fun i x hx => ?_, fun i hi => k2 i (h6 i hi)⟩
    obtain ⟨c, c1, c2⟩ := h5 i x hx
    exact ⟨c, Enc.mono hs (hp.ow.sub [i] fun _ h => h) (hm.sub (hr x (List.mem_of_getElem? hx))) c1, c2⟩

/-! ### Updates of a state -/
def lk {β : Type 1} : List (Nat × β) → Nat → Option β
  | [], _ => none
  | (k, x) :: r, t => if t = k then some x else lk r t
def orr {β : Type 1} : Option β → β → β
  | some x, _ => x
  | none, y => y
def St.upd (st : St) (wt : List (Nat × Option AV)) (wo : List (Nat × Obj)) : St :=
  ⟨st.n, fun t => orr (lk wt t) (st.tm t), fun o => orr (lk wo o) (st.ob o)⟩
@[simp] theorem St.upd_n (st : St) (wt wo) : (st.upd wt wo).n = st.n := rfl

def constAV : Value → Option AV
  | .int .i64 n => some (.v (n : Int))
  | .bool b => some (.v b)
  | .string s => some (.v s)
  | .slice none 0 0 => some .nil
  | .pointer none => some .nilp
  | _ => none
def St.ev (st : St) : Operand → Option AV
  | .tmp t => st.tm t
  | .const c => constAV c
  | .global _ => none
  | .func f => some (.fn f [] [])
def opT : Operand → List Nat
  | .tmp t => [t]
  | _ => []
def opO : Operand → Owner
  | .tmp t => (.tmp t, [])
  | _ => ω0
theorem constAV_rel (G w ω) (c : Value) : RelT G w ω (constAV c) c := by
  unfold constAV
  split
  · exact ⟨_, rfl, rfl⟩
  · exact ⟨_, rfl, rfl⟩
  · exact ⟨_, rfl, rfl⟩
  · rfl
  · rfl
  · trivial
theorem RelSt.ev {G w a st} (h : RelSt G w a st) (x : Operand) : RelT G w (opO x) (st.ev x) (a.eval x) := by
  cases x with
  | tmp t => exact h.tmps t
  | const c => exact constAV_rel _ _ _ _
  | global g => trivial
  | func f => exact ⟨[], [], rfl, rfl, rfl⟩
theorem ev_agree {st st1 : St} (x : Operand) (h : ∀ t ∈ opT x, st1.tm t = st.tm t) : st1.ev x = st.ev x := by
  cases x with
  | tmp t => exact h t (by simp [opT])
  | _ => rfl

theorem getD_set (xs : Array Value) (d t : Nat) (u : Value) (hd : d < xs.size) : (xs.setIfInBounds d u).getD t undef = if t = d then u else xs.getD t undef := by
  simp only [Array.getD_eq_getD_getElem?, Array.getElem?_setIfInBounds]
  by_cases h : d = t
  · subst h; simp [hd]
  · simp [h, Ne.symm h]

theorem RelSt.put {G w a st d av u} (h : RelSt G w a st) (hd : d < st.n) (hv : RelT G w (.tmp d, []) av u) : RelSt G w (a.put (some d) u) (st.upd [(d, av)] []) where
  defers := h.defers
  size := by show (a.tmps.setIfInBounds d u).size = _; simp [h.size]
  tmps := fun t => by
    show RelT G w _ (orr ((if t = d then some av else none) : Option (Option AV)) (st.tm t)) ((a.tmps.setIfInBounds d u).getD t undef)
    rw [getD_set _ _ _ _ (by rw [h.size]; exact hd)]
    by_cases e : t = d
    · subst e; simpa [orr] using hv
    · simpa [e, orr] using h.tmps t
  objs := h.objs

/-! ### One operation -/
def stepO (P : Program) (ops : Array Oper) (o : Oper) (K : Act → World → Prop) (Q : Exit → Act → World → Prop) (a : Act) (w : World) : Prop :=
  if Region.wanted o (yielded ops a.tmps) then o.wp P a w K Q ∨ (o.asks P a w ∧ LetsOut Q) else K (a.put o.dst undef) w

structure Agree (rt ro : List Nat) (st st1 : St) : Prop where
  n : st1.n = st.n
  tm : ∀ t ∈ rt, st1.tm t = st.tm t
  ob : ∀ x ∈ ro, st1.ob x = st.ob x
theorem Agree.refl (rt ro st) : Agree rt ro st st := ⟨rfl, fun _ _ => rfl, fun _ _ => rfl⟩

/-- `o` reads only `rt`, `ro`, and turns a state by `wt`, `wo`. -/
def OpOk (P : Program) (S : Nat → Prop) (ops : Array Oper) (o : Oper) (rt ro : List Nat) (wt : List (Nat × Option AV)) (wo : List (Nat × Obj)) (st : St) : Prop :=
  ∀ st1, Agree rt ro st st1 → ∀ G w a, RelSt G w a st1 → ∀ K Q,
    (∀ a' w' G', RelSt G' w' a' (st1.upd wt wo) → Keep S G w G' w' → K a' w') → stepO P ops o K Q a w

variable {P : Program} {S : Nat → Prop} {ops : Array Oper} {o : Oper} {st : St}

/-- An operation that only computes a value. -/
theorem OpOk.value {rt ro d av} (hg : o.guard = none) (hd : o.dst = some d) (hn : d < st.n)
    (h : ∀ st1, Agree rt ro st st1 → ∀ G w a, RelSt G w a st1 → ∃ u, (execOp a.eval o).run P w = .ok (.value u) w ∧ RelV G w (.tmp d, []) av u) :
    OpOk P S ops o rt ro [(d, some av)] [] st := by
  intro st1 hag G w a hr K Q hK
  obtain ⟨u, hu, hv⟩ := h st1 hag G w a hr
  unfold stepO
  rw [if_pos (by simp [Region.wanted, hg])]
  refine .inl ?_
  unfold Oper.wp
  rw [hu]
  simp only [Oper.upon]
  rw [hd]
  exact hK _ w G (hr.put (av := some av) (by rw [hag.n]; exact hn) hv) (Keep.refl _ _ _)

/-! ### Code -/
def awpOps (P : Program) (S : Nat → Prop) (ops : Array Oper) (l : List Oper) (Q : St → Prop) (st : St) : Prop :=
  ∀ G w a, RelSt G w a st → ∀ Q', (∀ a' w' G' st', RelSt G' w' a' st' → Keep S G w G' w' → Q st' → Q' .normal a' w') → wpList P ops Q' l a w
def awp (P : Program) (S : Nat → Prop) (c : Code) (Q : Exit → St → Prop) (st : St) : Prop :=
  ∀ G w a, RelSt G w a st → c.wp P (fun e a' w' => ∃ st' G', RelSt G' w' a' st' ∧ Keep S G w G' w' ∧ Q e st') a w

theorem awpOps_nil {Q : St → Prop} (h : Q st) : awpOps P S ops [] Q st := fun G w a hr Q' hQ => hQ a w G st hr (Keep.refl _ _ _) h
theorem stepO_cons {l : List Oper} {Q : Exit → Act → World → Prop} {a : Act} {w : World} (h : stepO P ops o (wpList P ops Q l) Q a w) : wpList P ops Q (o :: l) a w := by
  unfold wpList
  exact h
theorem awpOps_cons {l : List Oper} {Q : St → Prop} {rt ro wt wo} (h : OpOk P S ops o rt ro wt wo st) (k : awpOps P S ops l Q (st.upd wt wo)) : awpOps P S ops (o :: l) Q st := by
  intro G w a hr Q' hQ
  refine stepO_cons (h st (Agree.refl _ _ _) G w a hr _ _ fun a' w' G' hr' hk => ?_)
  exact k G' w' a' hr' Q' fun a'' w'' G'' st'' hr'' hk'' hq => hQ a'' w'' G'' st'' hr'' (hk.trans hk'') hq

section code
variable {Q : Exit → St → Prop}
theorem awp_mono {c : Code} {Q' : Exit → St → Prop} (h : awp P S c Q st) (hq : ∀ e s, Q e s → Q' e s) : awp P S c Q' st := fun G w a hr =>
  wp_mono (h G w a hr) fun e a' w' ⟨st', G', h1, h2, h3⟩ => ⟨st', G', h1, h2, hq _ _ h3⟩
theorem awp_region {id : Nat} {l : List Oper} (h : awpOps P S l.toArray l (fun s => Q .normal s) st) : awp P S (.region id l.toArray false) Q st := fun G w a hr =>
  wp_region_lit (h G w a hr _ fun a' w' G' st' h1 h2 h3 => ⟨st', G', h1, h2, h3⟩)
theorem awp_skip (h : Q .normal st) : awp P S .skip Q st := fun G w a hr => wp_skip ⟨st, G, hr, Keep.refl _ _ _, h⟩
theorem awp_ret (h : Q .ret st) : awp P S .ret Q st := fun G w a hr => wp_ret ⟨st, G, hr, Keep.refl _ _ _, h⟩
theorem awp_exit {id : Nat} (h : Q (.exit id) st) : awp P S (.exit id) Q st := fun G w a hr => wp_exit ⟨st, G, hr, Keep.refl _ _ _, h⟩
def athen (K : St → Prop) (Q : Exit → St → Prop) : Exit → St → Prop
  | .normal, s => K s
  | e, s => Q e s
theorem awp_seq {x y : Code} (h : awp P S x (athen (awp P S y Q) Q) st) : awp P S (.seq x y) Q st := fun G w a hr => by
  refine wp_seq (wp_mono (h G w a hr) ?_)
  rintro e a' w' ⟨st', G', h1, h2, h3⟩
  have key : ∀ e, e ≠ .normal → Q e st' → (∃ st' G', RelSt G' w' a' st' ∧ Keep S G w G' w' ∧ Q e st') := fun e _ h => ⟨st', G', h1, h2, h⟩
  cases e with
  | normal => exact wp_mono (h3 G' w' a' h1) fun e a'' w'' ⟨st'', G'', k1, k2, k3⟩ => ⟨st'', G'', k1, h2.trans k2, k3⟩
  | exit id => exact key _ (by simp) h3
  | goto l => exact key _ (by simp) h3
  | ret => exact key _ (by simp) h3
  | panic ch => exact key _ (by simp) h3
  | outgrown => exact key _ (by simp) h3
theorem awp_cond {c : Operand} {x y : Code} {t : Bool} (hc : st.ev c = some (.v t)) (h1 : t = true → awp P S x Q st) (h2 : t = false → awp P S y Q st) : awp P S (.cond c x y) Q st := fun G w a hr => by
  have := hr.ev c
  rw [hc] at this
  obtain ⟨cs, e1, e2⟩ := this
  have e3 : a.eval c = .bool t := by rw [e2, show cs = [.bool t] from e1]; rfl
  refine wp_cond e3 ?_
  cases t with
  | true => exact h1 rfl G w a hr
  | false => exact h2 rfl G w a hr
def ablock (id : Nat) (Q : Exit → St → Prop) : Exit → St → Prop
  | .exit j, s => if j = id then Q .normal s else Q (.exit j) s
  | e, s => Q e s
theorem awp_block {id : Nat} {c : Code} (h : awp P S c (ablock id Q) st) : awp P S (.block id c) Q st := fun G w a hr => by
  refine wp_block (wp_mono (h G w a hr) ?_)
  rintro e a' w' ⟨st', G', h1, h2, h3⟩
  cases e with
  | exit j =>
    simp only [ablock] at h3
    simp only [Exit.inBlock]
    by_cases hj : j = id
    · subst hj
      rw [if_pos rfl] at h3
      simp only [if_true]
      exact ⟨st', G', h1, h2, h3⟩
    · rw [if_neg hj] at h3
      first
        | (rw [if_neg hj]; exact ⟨st', G', h1, h2, h3⟩)
        | (rw [if_neg (Ne.symm hj)]; exact ⟨st', G', h1, h2, h3⟩)
  | normal => exact ⟨st', G', h1, h2, h3⟩
  | goto l => exact ⟨st', G', h1, h2, h3⟩
  | ret => exact ⟨st', G', h1, h2, h3⟩
  | panic ch => exact ⟨st', G', h1, h2, h3⟩
  | outgrown => exact ⟨st', G', h1, h2, h3⟩

/-- One state may be taken for another: less is said of it. -/
def Le (S : Nat → Prop) (st st' : St) : Prop := ∀ G w a, RelSt G w a st → ∃ G', RelSt G' w a st' ∧ Keep S G w G' w
theorem awp_le {c : Code} {st' : St} (h : Le S st st') (k : awp P S c Q st') : awp P S c Q st := fun G w a hr => by
  obtain ⟨G', h1, h2⟩ := h G w a hr
  exact wp_mono (k G' w a h1) fun e a'' w'' ⟨st'', G'', k1, k2, k3⟩ => ⟨st'', G'', k1, h2.trans k2, k3⟩
theorem awpOps_le {l : List Oper} {Q : St → Prop} {st' : St} (h : Le S st st') (k : awpOps P S ops l Q st') : awpOps P S ops l Q st := fun G w a hr Q' hQ => by
  obtain ⟨G', h1, h2⟩ := h G w a hr
  exact k G' w a h1 Q' fun a'' w'' G'' st'' k1 k2 k3 => hQ a'' w'' G'' st'' k1 (h2.trans k2) k3

/-- A loop: `I n` are the states in which at most `n` rounds are to come. -/
theorem awp_loop {c : Code} (I : Nat → St → Prop) (n : Nat) (h0 : ∃ s, Le S st s ∧ I n s)
    (round : ∀ n s, I n s → awp P S c (athen (fun s' => ∃ n' s'', n' < n ∧ Le S s' s'' ∧ I n' s'') Q) s) : awp P S (.loop c) Q st := fun G w a hr => by
  obtain ⟨s, hle, hI⟩ := h0
  obtain ⟨G0, hr0, hk0⟩ := hle G w a hr
  refine wp_loop_ghost (fun n a' w' => ∃ s G', RelSt G' w' a' s ∧ Keep S G w G' w' ∧ I n s) n ⟨s, G0, hr0, hk0, hI⟩ ?_
  rintro n a' w' ⟨s', G', h1, h2, h3⟩
  refine wp_mono (round n s' h3 G' w' a' h1) ?_
  rintro e a'' w'' ⟨s2, G2, k1, k2, k3⟩
  cases e with
  | normal =>
    obtain ⟨n', s3, hlt, hle, hI'⟩ := k3
    obtain ⟨G3, hr3, hk3⟩ := hle G2 w'' a'' k1
    exact ⟨n', hlt, s3, G3, hr3, (h2.trans k2).trans hk3, hI'⟩
  | exit id => exact ⟨s2, G2, k1, h2.trans k2, k3⟩
  | goto l => exact ⟨s2, G2, k1, h2.trans k2, k3⟩
  | ret => exact ⟨s2, G2, k1, h2.trans k2, k3⟩
  | panic ch => exact ⟨s2, G2, k1, h2.trans k2, k3⟩
  | outgrown => exact ⟨s2, G2, k1, h2.trans k2, k3⟩
end code

end Go.Wt

/- Steps of memory under an abstract state. -/
set_option linter.unusedVariables false
set_option linter.unusedSimpArgs false
namespace Go.Wt
open Go

/-! ### A new block -/
def Gh.blk (G : Gh) (b : Nat) (f : Nat → Option Owner) : Gh := ⟨fun b' i => if b' = b then f i else G.own b' i, G.hdr⟩
def Gh.hd (G : Gh) (o : Nat) (v : Value) : Gh := ⟨G.own, fun o' => if o' = o then some v else G.hdr o'⟩

theorem cl_alloc {w : World} {x : Go.Obj} {b i : Nat} {v} (h : cl w b i = some v) : cl (w.alloc x) b i = some v := by
  have := lt_of_cl h
  rw [← h]; exact World.cell?_alloc_lt w x _ this
theorem fz_alloc {w : World} {x : Go.Obj} {b i : Nat} (h : b < w.heap.size) : fz (w.alloc x) b i = fz w b i :=
  World.frozen?_alloc_old w x _ (Nat.ne_of_lt h)
theorem heap_alloc_lt {w : World} {x : Go.Obj} {b : Nat} (h : b < w.heap.size) : (w.alloc x).heap[b]? = w.heap[b]? := by
  show (w.heap.push x)[b]? = _
  rw [Array.getElem?_push, if_neg (by omega)]
theorem heap_alloc_eq (w : World) (x : Go.Obj) : (w.alloc x).heap[w.heap.size]? = some x := by
  show (w.heap.push x)[w.heap.size]? = _
  simp

section newblk
variable {G : Gh} {w : World} {x : Go.Obj} {f : Nat → Option Owner}
theorem Sh.blk : Sh G w (G.blk w.heap.size f) (w.alloc x) := fun b i v h1 h2 => by
  have := lt_of_cl h2
  exact ⟨by simp only [Gh.blk]; rw [if_neg (by omega)]; exact h1, cl_alloc h2⟩
theorem Ow.blk {ω : Owner} : Ow G w ω (G.blk w.heap.size f) (w.alloc x) ω never := fun b i π v _ h1 h2 => by
  have := lt_of_cl h2
  refine ⟨by simp only [Gh.blk]; rw [if_neg (by omega)]; exact h1, cl_alloc h2, fun h => ?_⟩
  rw [fz_alloc this]; exact h
theorem Keep.blk (S : Nat → Prop) : Keep S G w (G.blk w.heap.size f) (w.alloc x) where
  os := rfl
  tape := rfl
  output := rfl
  size := by simp
  cell := fun b i v h1 h2 => by
    have := lt_of_cl h2
    exact ⟨by simp only [Gh.blk]; rw [if_neg (by omega)], cl_alloc h2, fz_alloc this⟩
  block := fun b hb _ => heap_alloc_lt hb
  hdr := fun _ _ _ h => h
theorem PresO.blk (o : Nat) : PresO G w (G.blk w.heap.size f) (w.alloc x) o where
  hdr := rfl
  block := fun b _ hb => ⟨heap_alloc_lt hb, fun i h => by simp only [Gh.blk]; rw [if_neg (by omega)]; exact h⟩
  ow := Ow.blk
end newblk

theorem Obj.refs_all (x : Obj) : ∃ T : List Nat, x.refs T := by
  cases x with
  | free => exact ⟨[], trivial⟩
  | dead => exact ⟨[], trivial⟩
  | cell x => exact ⟨Enc.refs x, fun _ h => h⟩
  | arr xs => exact ⟨xs.flatMap Enc.refs, fun x hx o ho => List.mem_flatMap.2 ⟨x, hx, ho⟩⟩

theorem RelSt.newblk {G w a st} (h : RelSt G w a st) (x : Go.Obj) (f : Nat → Option Owner) : RelSt (G.blk w.heap.size f) (w.alloc x) a st where
  defers := h.defers
  size := h.size
  tmps := fun t => (h.tmps t).mono Sh.blk Ow.blk (fun _ _ _ h => h)
  objs := fun o => by
    obtain ⟨T, hT⟩ := Obj.refs_all (st.ob o)
    exact (h.objs o).pres Sh.blk (fun _ _ _ h => h) hT (PresO.blk o)

/-- A new object: its header is put down. -/
theorem RelSt.sethdr {G w a st} (h : RelSt G w a st) {o : Nat} (ho : st.ob o = .free) (v : Value) {x : Obj} (hx : RelO (G.hd o v) w o x) : RelSt (G.hd o v) w a (st.upd [] [(o, x)]) := by
  have hn : G.hdr o = none := by have := h.objs o; rw [ho] at this; exact this
  have hm : HmAll G (G.hd o v) := fun o' u hu => by
    simp only [Gh.hd]
    by_cases e : o' = o
    · subst e; rw [hn] at hu; cases hu
    · rw [if_neg e]; exact hu
  have hs : Sh G w (G.hd o v) w := Sh.refl G w
  have hw : ∀ ω, Ow G w ω (G.hd o v) w ω never := fun ω => Ow.refl G w ω _
  refine ⟨h.defers, h.size, fun t => (h.tmps t).mono hs (hw _) (hm.on _), fun o' => ?_⟩
  show RelO _ _ _ (orr ((if o' = o then some x else none) : Option Obj) (st.ob o'))
  by_cases e : o' = o
  · subst e; simpa [orr] using hx
  · rw [if_neg e]
    obtain ⟨T, hT⟩ := Obj.refs_all (st.ob o')
    refine (h.objs o').pres hs (hm.on _) hT ⟨?_, fun b h1 h2 => ⟨rfl, fun _ h => h⟩, hw _⟩
    simp only [Gh.hd]; rw [if_neg e]
theorem Keep.hd {S : Nat → Prop} {G w o v} (hn : G.hdr o = none) : Keep S G w (G.hd o v) w :=
  ⟨rfl, rfl, rfl, Nat.le_refl _, fun _ _ _ _ h => ⟨rfl, h, rfl⟩, fun _ _ _ => rfl, fun o' u _ hu => by
    simp only [Gh.hd]
    by_cases e : o' = o
    · subst e; rw [hn] at hu; cases hu
    · rw [if_neg e]; exact hu⟩

theorem St.upd_upd (st : St) (wt : List (Nat × Option AV)) (wo : List (Nat × Obj)) : (st.upd [] wo).upd wt [] = st.upd wt wo := rfl
theorem St.upd_upd' (st : St) (wt : List (Nat × Option AV)) (wo : List (Nat × Obj)) : (st.upd wt []).upd [] wo = st.upd wt wo := rfl

/-- A new variable. -/
theorem RelSt.newcell {G w a st} (h : RelSt G w a st) {o : Nat} (ho : st.ob o = .free) {α : Type} [Enc α] {x : α} {cs : List Value} {e : TypeId} (hx : Enc.rd G w (.obj o, []) x cs) :
    ∃ G', RelSt G' (w.alloc (.cells cs.toArray e)) a (st.upd [] [(o, .cell x)]) ∧ (∀ S, Keep S G w G' (w.alloc (.cells cs.toArray e))) ∧ G'.hdr o = some (.pointer (some ⟨w.heap.size, 0, none⟩)) := by
  have hn : G.hdr o = none := by have := h.objs o; rw [ho] at this; exact this
  have h1 := h.newblk (.cells cs.toArray e) (fun _ => some (.blk o, []))
  refine ⟨_, h1.sethdr ho (.pointer (some ⟨w.heap.size, 0, none⟩)) (x := .cell x) ?_, fun S => (Keep.blk S).trans (Keep.hd hn), by simp [Gh.hd]⟩
  refine ⟨w.heap.size, cs, e, by simp [Gh.hd], heap_alloc_eq _ _, ?_, fun i hi => by simp [Gh.hd, Gh.blk]⟩
  have := Enc.mono (ω' := (.obj o, [])) (Sh.blk (x := .cells cs.toArray e) (f := fun _ => some (.blk o, []))) Ow.blk (fun _ _ _ h => h) hx
  refine Enc.mono (G := G.blk w.heap.size fun _ => some (.blk o, [])) (w := w.alloc (.cells cs.toArray e)) (fun b i v h1 h2 => ⟨h1, h2⟩) (fun b i π v _ h1 h2 => ⟨h1, h2, id⟩) (fun o' _ v' hv => ?_) this
  have hv' : G.hdr o' = some v' := hv
  have hne : o' ≠ o := by rintro rfl; rw [hn] at hv'; cases hv'
  simp [Gh.hd, hne, hv]

/-! ### A store into an object's block -/
section write
variable {G : Gh} {w : World} {o b : Nat} {cs cs' : List Value} {e : TypeId}
theorem cl_setRow_ne {b' i : Nat} (h : b' ≠ b) (x : Array Value) : cl (w.setRow b x) b' i = cl w b' i := cell_setRow_other w b x _ h
theorem fz_setRow_ne {b' i : Nat} (h : b' ≠ b) (x : Array Value) : fz (w.setRow b x) b' i = fz w b' i := fz_of_block (setRow_other w b b' x h) i
theorem cl_row (hb : w.heap[b]? = some (.cells cs.toArray e (0, 0))) (i : Nat) : cl w b i = cs[i]? := by simp [World.cell?, hb]

structure Wr (G : Gh) (w : World) (o b : Nat) (cs cs' : List Value) (e : TypeId) : Prop where
  hb : w.heap[b]? = some (.cells cs.toArray e (0, 0))
  own : ∀ i, i < cs.length → G.own b i = some (.blk o, [])
  len : cs'.length = cs.length
  pos : 0 < cs.length
theorem Wr.none_ne (h : Wr G w o b cs cs' e) {b' i v} (ho : G.own b' i ≠ some (.blk o, [])) (hc : cl w b' i = some v) : b' ≠ b := by
  rintro rfl
  rw [cl_row h.hb] at hc
  have : i < cs.length := by
    rcases Nat.lt_or_ge i cs.length with h' | h'
    · exact h'
    · simp [List.getElem?_eq_none h'] at hc
  exact ho (h.own i this)
theorem Wr.sh (h : Wr G w o b cs cs' e) : Sh G w G (w.setRow b cs'.toArray) := fun b' i v h1 h2 =>
  ⟨h1, by rw [cl_setRow_ne (h.none_ne (by rw [h1]; simp) h2)]; exact h2⟩
theorem Wr.ow (h : Wr G w o b cs cs' e) {ω : Owner} (hω : ω.1 ≠ .blk o) : Ow G w ω G (w.setRow b cs'.toArray) ω never := fun b' i π v _ h1 h2 => by
  have hne := h.none_ne (by rw [h1]; intro e; injection e with e; injection e with e; exact hω e) h2
  exact ⟨h1, by rw [cl_setRow_ne hne]; exact h2, fun hf => by rw [fz_setRow_ne hne]; exact hf⟩
theorem Wr.keep (h : Wr G w o b cs cs' e) (S : Nat → Prop) : Keep S G w G (w.setRow b cs'.toArray) where
  os := rfl
  tape := rfl
  output := rfl
  size := by simp
  cell := fun b' i v h1 h2 => by
    have hne := h.none_ne (by rcases h1 with h1 | ⟨π, h1⟩ <;> (rw [h1]; simp)) h2
    exact ⟨rfl, by rw [cl_setRow_ne hne]; exact h2, fz_setRow_ne hne _⟩
  block := fun b' hb' hn => by
    refine setRow_other _ _ _ _ ?_
    rintro rfl
    have hc : cl w b' 0 = some (cs[0]'h.pos) := by rw [cl_row h.hb]; exact List.getElem?_eq_getElem h.pos
    rcases hn 0 _ hc with h1 | ⟨π, h1⟩ <;> (rw [h.own 0 h.pos] at h1; simp at h1)
  hdr := fun _ _ _ h => h
theorem RelO.blk_own {x : Obj} {o' : Nat} (h : RelO G w o' x) (hx : x ≠ .free ∧ x ≠ .dead) {b : Nat} (hb : (G.hdr o').bind blkOf = some b) {cs e} (hh : w.heap[b]? = some (.cells cs e (0, 0))) (hp : 0 < cs.size) : G.own b 0 = some (.blk o', []) := by
  cases x with
  | free => exact absurd rfl hx.1
  | dead => exact absurd rfl hx.2
  | cell x =>
    obtain ⟨b1, cs1, e1, h1, h2, _, h4⟩ := h
    have : b1 = b := by rw [h1] at hb; simpa [blkOf] using hb
    subst this
    rw [h2] at hh
    have e2 : cs1.toArray = cs := by simp only [Option.some.injEq, Go.Obj.cells.injEq] at hh; exact hh.1
    subst e2
    exact h4 0 (by simpa using hp)
  | arr xs =>
    obtain ⟨b1, cap, cs1, e1, h1, h2, _, _, _, h6⟩ := h
    have : b1 = b := by rw [h1] at hb; simpa [blkOf] using hb
    subst this
    rw [h2] at hh
    have e2 : cs1.toArray = cs := by simp only [Option.some.injEq, Go.Obj.cells.injEq] at hh; exact hh.1
    subst e2
    exact h6 0 (by simpa using hp)
theorem RelSt.write {a st} (h : RelSt G w a st) (hw : Wr G w o b cs cs' e) {x' : Obj} (hx : RelO G (w.setRow b cs'.toArray) o x') : RelSt G (w.setRow b cs'.toArray) a (st.upd [] [(o, x')]) where
  defers := h.defers
  size := h.size
  tmps := fun t => (h.tmps t).mono hw.sh (hw.ow (by simp)) (fun _ _ _ h => h)
  objs := fun o' => by
    show RelO _ _ _ (orr ((if o' = o then some x' else none) : Option Obj) (st.ob o'))
    by_cases eo : o' = o
    · subst eo; simpa [orr] using hx
    · rw [if_neg eo]
      show RelO _ _ _ (st.ob o')
      have h0 := h.objs o'
      by_cases hfd : st.ob o' = .free ∨ st.ob o' = .dead
      · rcases hfd with hfd | hfd
        · rw [hfd] at h0 ⊢; exact h0
        · rw [hfd]; trivial
      · obtain ⟨T, hT⟩ := Obj.refs_all (st.ob o')
        refine h0.pres hw.sh (fun _ _ _ h => h) hT ⟨rfl, fun b' h1 h2 => ⟨setRow_other _ _ _ _ ?_, fun _ h => h⟩, hw.ow (by simp)⟩
        rintro rfl
        have := h0.blk_own ⟨fun e => hfd (.inl e), fun e => hfd (.inr e)⟩ h1 hw.hb (by simpa using hw.pos)
        rw [hw.own 0 hw.pos] at this
        injection this with this
        injection this with this
        injection this with this
        exact eo this.symm
end write

/-! ### Whose is whose: a relabelling -/
def relab (s d : Owner) : Owner → Owner := fun q =>
  if q.1 = s.1 ∧ s.2 <+: q.2 then (d.1, d.2 ++ q.2.drop s.2.length) else if q.1 = d.1 ∧ d.2 <+: q.2 then (.junk, []) else q
def Gh.mv (G : Gh) (s d : Owner) : Gh := ⟨fun b i => (G.own b i).map (relab s d), G.hdr⟩
section mv
variable {G : Gh} {w : World} {s d : Owner}
theorem Sh.mv : Sh G w (G.mv s d) w := fun b i v h1 h2 => ⟨by simp [Gh.mv, h1], h2⟩
theorem Ow.mv_src : Ow G w s (G.mv s d) w d never := fun b i π v _ h1 h2 => by
  refine ⟨?_, h2, id⟩
  simp [Gh.mv, h1, relab]
theorem Ow.mv_other {ω : Owner} (h1 : ω.1 ≠ s.1) (h2 : ω.1 ≠ d.1) : Ow G w ω (G.mv s d) w ω never := fun b i π v _ k1 k2 => by
  refine ⟨?_, k2, id⟩
  simp [Gh.mv, k1, relab, h1, h2]
theorem Ow.mv_rest {p : Pl} {ρ : List Nat} (h1 : s.1 = p) (h2 : d.1 ≠ p) : Ow G w (p, []) (G.mv s d) w (p, []) (fun π => s.2 <+: π) := fun b i π v hn k1 k2 => by
  refine ⟨?_, k2, id⟩
  have hn' : ¬ s.2 <+: π := hn
  simp [Gh.mv, k1, relab, h1, hn', Ne.symm h2]
theorem Ow.mv_into {p : Pl} (h1 : s.1 ≠ p) (h2 : d.1 = p) : Ow G w (p, []) (G.mv s d) w (p, []) (fun π => d.2 <+: π) := fun b i π v hn k1 k2 => by
  refine ⟨?_, k2, id⟩
  have hn' : ¬ d.2 <+: π := hn
  simp [Gh.mv, k1, relab, Ne.symm h1, h2, hn']
theorem Keep.mv (S : Nat → Prop) (h1 : s.1 ≠ .ext) (h2 : d.1 ≠ .ext) : Keep S G w (G.mv s d) w :=
  ⟨rfl, rfl, rfl, Nat.le_refl _, fun b i v h hc => ⟨by
    rcases h with h | ⟨π, h⟩
    · simp [Gh.mv, h]
    · simp [Gh.mv, h, relab, Ne.symm h1, Ne.symm h2], hc, rfl⟩, fun _ _ _ => rfl, fun _ _ _ h => h⟩
theorem PresO.mv {o : Nat} (h1 : s.1 ≠ .obj o) (h2 : d.1 ≠ .obj o) (h3 : s.1 ≠ .blk o) (h4 : d.1 ≠ .blk o) : PresO G w (G.mv s d) w o :=
  ⟨rfl, fun b _ _ => ⟨rfl, fun i h => by simp [Gh.mv, h, relab, Ne.symm h3, Ne.symm h4]⟩, Ow.mv_other (Ne.symm h1) (Ne.symm h2)⟩
end mv

end Go.Wt

/- One lemma an operation. -/
set_option linter.unusedVariables false
set_option linter.unusedSimpArgs false
namespace Go.Wt
open Go

def isAggD : TypeDesc → Bool
  | .struct _ | .array _ _ => true
  | _ => false
def tyB (P : Program) (T : TypeId) (size : Nat) (agg : Bool) : Bool :=
  match P.info? T, P.underlying T with
  | some i, some d => i.size == size && (isAggD d == agg)
  | _, _ => false
/-- Type `T` of the program is `α`. -/
structure TyOk (P : Program) (T : TypeId) (α : Type) [Enc α] : Prop where
  ok : tyB P T (Enc.size α) (Enc.agg α) = true
/-- What a new variable of the type holds. -/
structure ZeroOk (P : Program) (T : TypeId) {α : Type} [Enc α] (z : α) : Prop where
  ok : ∃ i cs, P.info? T = some i ∧ i.zero = some (Enc.val α cs) ∧ ∀ G w ω, Enc.rd G w ω z cs
/-- Field `k` of struct type `T`. -/
def fldB (P : Program) (T : TypeId) (k off size : Nat) : Bool :=
  match P.underlying T with
  | some (.struct fs) => match fs[k]? with
    | some f => f.offset == off && (match P.info? f.type with | some i => i.size == size | none => false)
    | none => false
  | _ => false
structure FldOk (P : Program) (T : TypeId) (k : Nat) {α γ : Type} [Enc α] [Enc γ] (get : α → γ) (set : α → γ → α) (off : Nat) (pth : List Nat) : Prop where
  len : IsLens get set off pth
  ok : fldB P T k off (Enc.size γ) = true
/-- `T` is a type of slices whose elements, of type `E`, are `α`s of `bytes` bytes. -/
def slB (P : Program) (T E bytes : Nat) : Bool :=
  match P.underlying T, P.info? E with
  | some (.slice e), some i => e == E && i.bytes == bytes
  | _, _ => false
structure SlOk (P : Program) (T E bytes : Nat) (α : Type) [Enc α] : Prop where
  ok : slB P T E bytes = true
  el : TyOk P E α

variable {P : Program} {S : Nat → Prop} {ops : Array Oper} {st : St}

theorem TyOk.spec {T} {α : Type} [Enc α] (h : TyOk P T α) : ∃ i d, P.info? T = some i ∧ P.underlying T = some d ∧ i.size = Enc.size α ∧ isAggD d = Enc.agg α := by
  have := h.ok
  unfold tyB at this
  split at this
  · rename_i i d h1 h2
    simp only [Bool.and_eq_true, beq_iff_eq] at this
    exact ⟨i, d, h1, h2, this.1, this.2⟩
  · cases this
theorem TyOk.size {T} {α : Type} [Enc α] (h : TyOk P T α) (w : World) : (sizeOf T).run P w = .ok (Enc.size α) w := by
  obtain ⟨i, d, h1, h2, h3, h4⟩ := h.spec
  simp [sizeOf, typeInfo, h1, h3]
theorem TyOk.isAgg {T} {α : Type} [Enc α] (h : TyOk P T α) (w : World) : (isAgg T).run P w = .ok (Enc.agg α) w := by
  obtain ⟨i, d, h1, h2, h3, h4⟩ := h.spec
  rw [← h4]
  simp only [Go.isAgg, Sem.run_bind, run_underlying h2, Result.andThen_ok]
  cases d <;> rfl
theorem add_lit (b o n : Nat) : (⟨b, o, none⟩ : Addr).add n = ⟨b, o + n, none⟩ := by unfold Addr.add; split <;> simp_all

theorem run_load_rd {γ : Type} [Enc γ] {T : TypeId} {b off : Nat} {cs : List Value} {G w w' ω} {y : γ} (ht : TyOk P T γ) (hy : Enc.rd G w' ω y cs)
    (hc : ∀ j v, cs[j]? = some v → cl w b (off + j) = some v) : (loadVar T ⟨b, off, none⟩).run P w = .ok (Enc.val γ cs) w := by
  have hl := Enc.len hy
  simp only [loadVar, Sem.run_bind, ht.isAgg, Result.andThen_ok]
  by_cases ha : Enc.agg γ = true
  · simp only [ha, if_true, Sem.run_bind, ht.size, Result.andThen_ok]
    rw [← hl, run_loadCells_list w _ cs (fun j v hj => by rw [add_lit]; exact hc j v hj)]
    simp [Enc.val, ha]
  · have h1 := Enc.agg_size (α := γ) (by simpa using ha)
    rw [h1] at hl
    match cs, hl with
    | [c], _ =>
      have := hc 0 c rfl
      simp at ha
      simp only [ha, Bool.false_eq_true, if_false, run_load]
      simp at this
      simp [this, Enc.val, ha]

theorem oneCell_of {cs : List Value} (h : ∀ c ∈ cs, c.oneCell' = true) : cs.toArray.all (·.oneCell') = true := by simpa using h

theorem run_store_rd {γ : Type} [Enc γ] {T : TypeId} {b off : Nat} {cs ds : List Value} {e : TypeId} {G w ω} {y : γ} (ht : TyOk P T γ) (hy : Enc.rd G w ω y ds)
    (hb : w.heap[b]? = some (.cells cs.toArray e (0, 0))) (hf : off + Enc.size γ ≤ cs.length) :
    (storeVar T ⟨b, off, none⟩ (Enc.val γ ds)).run P w = .ok () (w.setRow b (cs.take off ++ ds ++ cs.drop (off + Enc.size γ)).toArray) := by
  have hl := Enc.len hy
  simp only [storeVar, Sem.run_bind, ht.size, Result.andThen_ok, Enc.val_cells hy]
  have e1 : ¬ (ds.toArray.size ≠ Enc.size γ) := by simp [hl]
  rw [if_neg e1]
  have := run_storeCells_at (P := P) b off e ds 0 cs.toArray w hb (by simp; omega) (Enc.one hy)
  simpa [hl] using this

/-! ### Words of values -/
theorem RelV.int {G w ω u} {n : Int} (h : RelV G w ω (.v n) u) : u = .int .i64 n := by obtain ⟨cs, h1, h2⟩ := h; rw [h2, show cs = [.int .i64 n] from h1]; rfl
theorem RelV.bool {G w ω u} {n : Bool} (h : RelV G w ω (.v n) u) : u = .bool n := by obtain ⟨cs, h1, h2⟩ := h; rw [h2, show cs = [.bool n] from h1]; rfl
theorem RelV.byte {G w ω u} {n : UInt8} (h : RelV G w ω (.v n) u) : u = .int .u8 n.toNat := by obtain ⟨cs, h1, h2⟩ := h; rw [h2, show cs = [.int .u8 n.toNat] from h1]; rfl
theorem RelV.str {G w ω u} {n : ByteArray} (h : RelV G w ω (.v n) u) : u = .string n := by obtain ⟨cs, h1, h2⟩ := h; rw [h2, show cs = [.string n] from h1]; rfl
theorem relInt (G w ω) (n : Int) : RelV G w ω (.v n) (.int .i64 n) := ⟨[.int .i64 n], rfl, rfl⟩
theorem relBool (G w ω) (n : Bool) : RelV G w ω (.v n) (.bool n) := ⟨[.bool n], rfl, rfl⟩
theorem relByte (G w ω) (n : UInt8) : RelV G w ω (.v n) (.int .u8 n.toNat) := ⟨[.int .u8 n.toNat], rfl, rfl⟩
theorem relStr (G w ω) (n : ByteArray) : RelV G w ω (.v n) (.string n) := ⟨[.string n], rfl, rfl⟩

theorem RelSt.at {G w a st st1 rt ro} (hr : RelSt G w a st1) (hag : Agree rt ro st st1) {x : Operand} {av : AV} (hx : st.ev x = some av) (hs : ∀ t ∈ opT x, t ∈ rt) : RelV G w (opO x) av (a.eval x) := by
  have := hr.ev x
  rw [ev_agree x (fun t ht => hag.tm t (hs t ht)), hx] at this
  exact this

/-- What is the one is the other; what it owns is let go. -/
def Conv (x y : AV) : Prop := ∀ {G w ω ω' u}, RelV G w ω x u → RelV G w ω' y u
theorem Conv.of {x : AV} (h : x.dis = x) : Conv x x := fun {G w ω ω' u} k => by
  have := k.mono_dis (ω' := ω') (Sh.refl G w) (Hm.refl _ _)
  rwa [h] at this
theorem Conv.dis (x : AV) : Conv x x.dis := fun {G w ω ω' u} k => k.mono_dis (Sh.refl G w) (Hm.refl _ _)
section
variable {α : Type} [Enc α] [Plain α]
theorem Conv.ol {xs : List α} {b : Bool} : Conv (.v (OList.mk xs b)) (.v xs) := fun {G w ω ω' u} ⟨cs, ⟨a, cap, h1, h2, h3, _⟩, h4⟩ => ⟨cs, ⟨a, cap, h1, h2, h3⟩, h4⟩
theorem Conv.cl {xs : CList α} : Conv (.v xs) (.v xs.l) := fun {G w ω ω' u} ⟨cs, ⟨a, h1, h3⟩, h4⟩ => ⟨cs, ⟨a, _, h1, Nat.le_refl _, h3⟩, h4⟩
theorem Conv.nl : Conv .nil (.v ([] : List α)) := fun {G w ω ω' u} h => ⟨[u], ⟨none, 0, by rw [show u = .slice none 0 0 from h]; rfl, Nat.le_refl _, .inl rfl⟩, rfl⟩
theorem Conv.nc : Conv .nil (.v (CList.mk ([] : List α))) := fun {G w ω ω' u} h => ⟨[u], ⟨none, by rw [show u = .slice none 0 0 from h]; rfl, .inl rfl⟩, rfl⟩
theorem Conv.no : Conv .nil (.v (OList.mk ([] : List α) true)) := fun {G w ω ω' u} h => ⟨[u], ⟨none, 0, by rw [show u = .slice none 0 0 from h]; rfl, Nat.le_refl _, .inl rfl, fun _ => .inl (by simp)⟩, rfl⟩
end

section ops
variable {d : Nat} {T pos aft} {x y z : Operand}

theorem op_mv {av av' : AV} (hx : st.ev x = some av) (hp : Conv av av') (hn : Nat.blt d st.n = true) : OpOk P S ops ⟨some d, .move x, T, pos, aft, none⟩ (opT x) [] [(d, some av')] [] st :=
  OpOk.value rfl rfl (by simpa using hn) fun st1 hag G w a hr => ⟨a.eval x, rfl, hp (hr.at hag hx fun _ h => h)⟩
theorem op_as {av av' : AV} (hx : st.ev x = some av) (hp : Conv av av') (hn : Nat.blt d st.n = true) : OpOk P S ops ⟨some d, .assign x, T, pos, aft, none⟩ (opT x) [] [(d, some av')] [] st :=
  OpOk.value rfl rfl (by simpa using hn) fun st1 hag G w a hr => ⟨a.eval x, rfl, hp (hr.at hag hx fun _ h => h)⟩
/-- What is not known may be handed on. -/
theorem op_mv0 (hn : Nat.blt d st.n = true) : OpOk P S ops ⟨some d, .move x, T, pos, aft, none⟩ [] [] [(d, none)] [] st := by
  intro st1 hag G w a hr K Q hK
  unfold stepO
  rw [if_pos (by simp [Region.wanted])]
  exact .inl (hK _ w G (hr.put (av := none) (by rw [hag.n]; simpa using hn) trivial) (Keep.refl _ _ _))

/-- A move that takes the room along. -/
theorem own_move {s : Nat} {av : AV} {op : Op} (hop : ∀ ρ : Operand → Value, execOp ρ ⟨some d, op, T, pos, aft, none⟩ = pure (.value (ρ (.tmp s)))) (hx : st.tm s = some av) (hne : Nat.beq s d = false) (hn : Nat.blt d st.n = true) (hs : Nat.blt s st.n = true) :
    OpOk P S ops ⟨some d, op, T, pos, aft, none⟩ [s] [] [(d, some av), (s, some av.dis)] [] st := by
  intro st1 hag G w a hr K Q hK
  unfold stepO
  rw [if_pos (by simp [Region.wanted])]
  refine .inl ?_
  unfold Oper.wp
  rw [hop]
  simp only [Sem.run_pure, Oper.upon]
  have hsd : s ≠ d := by intro e; subst e; simp at hne
  have hv := hr.tmps s
  rw [hag.tm s (by simp), hx] at hv
  refine hK _ w (G.mv (.tmp s, []) (.tmp d, [])) ⟨hr.defers, ?_, fun t => ?_, fun o => ?_⟩ (Keep.mv S (by simp) (by simp))
  · show (a.tmps.setIfInBounds d _).size = _; simp [hr.size]
  · show RelT _ _ _ (orr (lk [(d, some av), (s, some av.dis)] t) (st1.tm t)) ((a.tmps.setIfInBounds d _).getD t undef)
    rw [getD_set _ _ _ _ (by rw [hr.size, hag.n]; simpa using hn)]
    simp only [lk]
    by_cases e : t = d
    · subst e
      simp only [if_true, orr]
      exact RelV.mono Sh.mv Ow.mv_src (fun _ _ _ h => h) hv
    · rw [if_neg e, if_neg e]
      by_cases e2 : t = s
      · subst e2
        simp only [if_true, orr]
        exact RelV.mono_dis Sh.mv (fun _ _ _ h => h) hv
      · rw [if_neg e2]
        simp only [orr]
        exact (hr.tmps t).mono Sh.mv (Ow.mv_other (by simpa using e2) (by simpa using e)) (fun _ _ _ h => h)
  · obtain ⟨T', hT⟩ := Obj.refs_all (st1.ob o)
    exact (hr.objs o).pres Sh.mv (fun _ _ _ h => h) hT (PresO.mv (by simp) (by simp) (by simp) (by simp))
theorem op_mvo {s : Nat} {av : AV} (hx : st.tm s = some av) (hne : Nat.beq s d = false) (hn : Nat.blt d st.n = true) (hs : Nat.blt s st.n = true) :
    OpOk P S ops ⟨some d, .move (.tmp s), T, pos, aft, none⟩ [s] [] [(d, some av), (s, some av.dis)] [] st := own_move (fun _ => rfl) hx hne hn hs
theorem op_aso {s : Nat} {av : AV} (hx : st.tm s = some av) (hne : Nat.beq s d = false) (hn : Nat.blt d st.n = true) (hs : Nat.blt s st.n = true) :
    OpOk P S ops ⟨some d, .assign (.tmp s), T, pos, aft, none⟩ [s] [] [(d, some av), (s, some av.dis)] [] st := own_move (fun _ => rfl) hx hne hn hs

theorem op_mvl {s : Nat} {α : Type} [Enc α] [Plain α] {xs : List α} (hx : st.tm s = some (.v (OList.mk xs true))) (hne : Nat.beq s d = false) (hn : Nat.blt d st.n = true) (hs : Nat.blt s st.n = true) :
    OpOk P S ops ⟨some d, .move (.tmp s), T, pos, aft, none⟩ [s] [] [(d, some (.v (OList.mk xs true))), (s, some (.v (OList.mk xs false)))] [] st := op_mvo hx hne hn hs
theorem op_asl {s : Nat} {α : Type} [Enc α] [Plain α] {xs : List α} (hx : st.tm s = some (.v (OList.mk xs true))) (hne : Nat.beq s d = false) (hn : Nat.blt d st.n = true) (hs : Nat.blt s st.n = true) :
    OpOk P S ops ⟨some d, .assign (.tmp s), T, pos, aft, none⟩ [s] [] [(d, some (.v (OList.mk xs true))), (s, some (.v (OList.mk xs false)))] [] st := op_aso hx hne hn hs

theorem op_pick {c : Bool} {av : AV} (hz : st.ev z = some (.v c)) (hx : st.ev (if c then x else y) = some av) (hp : av.dis = av) (hn : Nat.blt d st.n = true) :
    OpOk P S ops ⟨some d, .pick z x y, T, pos, aft, none⟩ (opT z ++ opT x ++ opT y) [] [(d, some av)] [] st :=
  OpOk.value rfl rfl (by simpa using hn) fun st1 hag G w a hr => by
    have h1 := RelV.bool (hr.at hag hz fun t ht => by simp [ht])
    refine ⟨if c then a.eval x else a.eval y, ?_, ?_⟩
    · simp only [execOp, h1, asBool, Sem.run_bind, Sem.run_pure, Result.andThen_ok]
    · have := (hr.at hag hx fun t ht => by cases c <;> simp_all).mono_dis (ω' := (.tmp d, [])) (Sh.refl G w) (Hm.refl _ _)
      rw [hp] at this
      cases c <;> exact this

/-! Numbers and bools -/
theorem wrap_in {n : Int} (h : -9223372036854775808 ≤ n ∧ n < 9223372036854775808) : IntKind.i64.wrap n = n := IntWalk.i64_in n (by omega)
section bin
variable {t t' : TypeId} {m n : Int}
theorem bin_value {op : BinOp} {av : AV} {rt : List Nat} (hn : Nat.blt d st.n = true)
    (h : ∀ st1, Agree rt [] st st1 → ∀ G w a, RelSt G w a st1 → ∃ u, (binOp op t (a.eval x) (a.eval y)).run P w = .ok u w ∧ (eqGuard op t x y (a.eval x) (a.eval y)).run P w = .ok () w ∧ RelV G w (.tmp d, []) av u) :
    OpOk P S ops ⟨some d, .binOp op t x y t', T, pos, aft, none⟩ rt [] [(d, some av)] [] st :=
  OpOk.value rfl rfl (by simpa using hn) fun st1 hag G w a hr => by
    obtain ⟨u, h1, h2, h3⟩ := h st1 hag G w a hr
    exact ⟨u, by simp only [execOp, Sem.run_bind, h2, Result.andThen_ok, h1, Sem.run_pure], h3⟩
theorem int_bin {op : BinOp} {av : AV} {u : Value} (hx : st.ev x = some (.v m)) (hy : st.ev y = some (.v n)) (hn : Nat.blt d st.n = true)
    (h1 : ∀ w : World, (binOp op t (.int .i64 m) (.int .i64 n)).run P w = .ok u w) (h3 : ∀ G w ω, RelV G w ω av u) :
    OpOk P S ops ⟨some d, .binOp op t x y t', T, pos, aft, none⟩ (opT x ++ opT y) [] [(d, some av)] [] st :=
  bin_value hn fun st1 hag G w a hr => by
    have e1 := RelV.int (hr.at hag hx fun t ht => by simp [ht])
    have e2 := RelV.int (hr.at hag hy fun t ht => by simp [ht])
    refine ⟨u, by rw [e1, e2]; exact h1 w, by rw [e1, eqGuard_at_int]; rfl, h3 _ _ _⟩
theorem op_add (hx : st.ev x = some (.v m)) (hy : st.ev y = some (.v n)) (hn : Nat.blt d st.n = true) (hb : -9223372036854775808 ≤ m + n ∧ m + n < 9223372036854775808) :
    OpOk P S ops ⟨some d, .binOp .add t x y t', T, pos, aft, none⟩ (opT x ++ opT y) [] [(d, some (.v (m + n)))] [] st :=
  int_bin hx hy hn (u := .int .i64 (m + n)) (fun w => by rw [binOp_add]; simp only [Op.intArith, wrap_in hb]; rfl) fun G w ω => relInt G w ω _
theorem op_sub (hx : st.ev x = some (.v m)) (hy : st.ev y = some (.v n)) (hn : Nat.blt d st.n = true) (hb : -9223372036854775808 ≤ m - n ∧ m - n < 9223372036854775808) :
    OpOk P S ops ⟨some d, .binOp .sub t x y t', T, pos, aft, none⟩ (opT x ++ opT y) [] [(d, some (.v (m - n)))] [] st :=
  int_bin hx hy hn (u := .int .i64 (m - n)) (fun w => by rw [binOp_sub]; simp only [Op.intArith, wrap_in hb]; rfl) fun G w ω => relInt G w ω _
theorem op_mul (hx : st.ev x = some (.v m)) (hy : st.ev y = some (.v n)) (hn : Nat.blt d st.n = true) (hb : -9223372036854775808 ≤ m * n ∧ m * n < 9223372036854775808) :
    OpOk P S ops ⟨some d, .binOp .mul t x y t', T, pos, aft, none⟩ (opT x ++ opT y) [] [(d, some (.v (m * n)))] [] st :=
  int_bin hx hy hn (u := .int .i64 (m * n)) (fun w => by rw [binOp_mul]; simp only [Op.intArith, wrap_in hb]; rfl) fun G w ω => relInt G w ω _
/-- Whatever the bounds. -/
theorem op_addw (hx : st.ev x = some (.v m)) (hy : st.ev y = some (.v n)) (hn : Nat.blt d st.n = true) :
    OpOk P S ops ⟨some d, .binOp .add t x y t', T, pos, aft, none⟩ (opT x ++ opT y) [] [(d, some (.v (IntKind.i64.wrap (m + n))))] [] st :=
  int_bin hx hy hn (u := .int .i64 (IntKind.i64.wrap (m + n))) (fun w => by rw [binOp_add]; rfl) fun G w ω => relInt G w ω _
theorem op_subw (hx : st.ev x = some (.v m)) (hy : st.ev y = some (.v n)) (hn : Nat.blt d st.n = true) :
    OpOk P S ops ⟨some d, .binOp .sub t x y t', T, pos, aft, none⟩ (opT x ++ opT y) [] [(d, some (.v (IntKind.i64.wrap (m - n))))] [] st :=
  int_bin hx hy hn (u := .int .i64 (IntKind.i64.wrap (m - n))) (fun w => by rw [binOp_sub]; rfl) fun G w ω => relInt G w ω _
theorem op_mulw (hx : st.ev x = some (.v m)) (hy : st.ev y = some (.v n)) (hn : Nat.blt d st.n = true) :
    OpOk P S ops ⟨some d, .binOp .mul t x y t', T, pos, aft, none⟩ (opT x ++ opT y) [] [(d, some (.v (IntKind.i64.wrap (m * n))))] [] st :=
  int_bin hx hy hn (u := .int .i64 (IntKind.i64.wrap (m * n))) (fun w => by rw [binOp_mul]; rfl) fun G w ω => relInt G w ω _
theorem op_quo (hx : st.ev x = some (.v m)) (hy : st.ev y = some (.v n)) (hn : Nat.blt d st.n = true) (h0 : n ≠ 0) :
    OpOk P S ops ⟨some d, .binOp .quo t x y t', T, pos, aft, none⟩ (opT x ++ opT y) [] [(d, some (.v (IntKind.i64.wrap (m.tdiv n))))] [] st :=
  int_bin hx hy hn (u := .int .i64 (IntKind.i64.wrap (m.tdiv n))) (fun w => by rw [binOp_quo]; simp only [Op.intDiv, if_neg h0]; rfl) fun G w ω => relInt G w ω _
theorem op_rem (hx : st.ev x = some (.v m)) (hy : st.ev y = some (.v n)) (hn : Nat.blt d st.n = true) (h0 : n ≠ 0) :
    OpOk P S ops ⟨some d, .binOp .rem t x y t', T, pos, aft, none⟩ (opT x ++ opT y) [] [(d, some (.v (m.tmod n)))] [] st :=
  int_bin hx hy hn (u := .int .i64 (m.tmod n)) (fun w => by rw [binOp_rem]; simp only [Op.intDiv, if_neg h0]; rfl) fun G w ω => relInt G w ω _
def xor64 (m n : Int) : Int := IntKind.i64.wrap ((BitVec.ofInt 64 m ^^^ BitVec.ofInt 64 n).toNat)
theorem op_xor (hx : st.ev x = some (.v m)) (hy : st.ev y = some (.v n)) (hn : Nat.blt d st.n = true) :
    OpOk P S ops ⟨some d, .binOp .xor t x y t', T, pos, aft, none⟩ (opT x ++ opT y) [] [(d, some (.v (xor64 m n)))] [] st :=
  int_bin hx hy hn (u := .int .i64 (xor64 m n)) (fun w => by rw [binOp_xor]; rfl) fun G w ω => relInt G w ω _
theorem op_lss (hx : st.ev x = some (.v m)) (hy : st.ev y = some (.v n)) (hn : Nat.blt d st.n = true) :
    OpOk P S ops ⟨some d, .binOp .lss t x y t', T, pos, aft, none⟩ (opT x ++ opT y) [] [(d, some (.v (decide (m < n))))] [] st :=
  int_bin hx hy hn (u := .bool (decide (m < n))) (fun w => by rw [binOp_lss]; rfl) fun G w ω => relBool G w ω _
theorem op_leq (hx : st.ev x = some (.v m)) (hy : st.ev y = some (.v n)) (hn : Nat.blt d st.n = true) :
    OpOk P S ops ⟨some d, .binOp .leq t x y t', T, pos, aft, none⟩ (opT x ++ opT y) [] [(d, some (.v (decide (m ≤ n))))] [] st :=
  int_bin hx hy hn (u := .bool (decide (m ≤ n))) (fun w => by rw [binOp_leq]; rfl) fun G w ω => relBool G w ω _
theorem op_gtr (hx : st.ev x = some (.v m)) (hy : st.ev y = some (.v n)) (hn : Nat.blt d st.n = true) :
    OpOk P S ops ⟨some d, .binOp .gtr t x y t', T, pos, aft, none⟩ (opT x ++ opT y) [] [(d, some (.v (decide (n < m))))] [] st :=
  int_bin hx hy hn (u := .bool (decide (n < m))) (fun w => by rw [binOp_gtr]; rfl) fun G w ω => relBool G w ω _
theorem op_geq (hx : st.ev x = some (.v m)) (hy : st.ev y = some (.v n)) (hn : Nat.blt d st.n = true) :
    OpOk P S ops ⟨some d, .binOp .geq t x y t', T, pos, aft, none⟩ (opT x ++ opT y) [] [(d, some (.v (decide (n ≤ m))))] [] st :=
  int_bin hx hy hn (u := .bool (decide (n ≤ m))) (fun w => by rw [binOp_geq]; rfl) fun G w ω => relBool G w ω _
theorem op_eql (hx : st.ev x = some (.v m)) (hy : st.ev y = some (.v n)) (hn : Nat.blt d st.n = true) :
    OpOk P S ops ⟨some d, .binOp .eql t x y t', T, pos, aft, none⟩ (opT x ++ opT y) [] [(d, some (.v (m == n)))] [] st :=
  int_bin hx hy hn (u := .bool (m == n)) (fun w => by rw [binOp_eql]; rfl) fun G w ω => relBool G w ω _
theorem op_neq (hx : st.ev x = some (.v m)) (hy : st.ev y = some (.v n)) (hn : Nat.blt d st.n = true) :
    OpOk P S ops ⟨some d, .binOp .neq t x y t', T, pos, aft, none⟩ (opT x ++ opT y) [] [(d, some (.v (m != n)))] [] st :=
  int_bin hx hy hn (u := .bool (m != n)) (fun w => by rw [binOp_neq]; rfl) fun G w ω => relBool G w ω _
end bin
theorem op_not {t} {b : Bool} (hx : st.ev x = some (.v b)) (hn : Nat.blt d st.n = true) : OpOk P S ops ⟨some d, .unOp .not t x, T, pos, aft, none⟩ (opT x) [] [(d, some (.v (!b)))] [] st :=
  OpOk.value rfl rfl (by simpa using hn) fun st1 hag G w a hr => ⟨.bool !b, by
    have e1 := RelV.bool (hr.at hag hx fun t ht => ht)
    simp only [execOp, e1, Op.unary, Sem.run_bind, Sem.run_pure, Result.andThen_ok], relBool _ _ _ _⟩
theorem op_cvb {s t : TypeId} {b : UInt8} (hx : st.ev x = some (.v b)) (hn : Nat.blt d st.n = true) (hs : (P.underlying s).isSome = true) (ht : P.underlying t = some (.int .i64)) :
    OpOk P S ops ⟨some d, .convert s t x, T, pos, aft, none⟩ (opT x) [] [(d, some (.v (b.toNat : Int)))] [] st :=
  OpOk.value rfl rfl (by simpa using hn) fun st1 hag G w a hr => ⟨.int .i64 b.toNat, by
    have e1 := RelV.byte (hr.at hag hx fun t ht => ht)
    obtain ⟨ds, hds⟩ := Option.isSome_iff_exists.1 hs
    have hb : IntKind.i64.wrap (b.toNat : Int) = (b.toNat : Int) := wrap_in (by have := b.toNat_lt; omega)
    simp only [execOp, e1, convert, Sem.run_bind, run_underlying hds, run_underlying ht, Result.andThen_ok]
    cases ds <;> simp [Conv.intToInt, hb], relInt _ _ _ _⟩
theorem op_min {ts : Array TypeId} {m n : Int} (hx : st.ev x = some (.v m)) (hy : st.ev y = some (.v n)) (hn : Nat.blt d st.n = true) :
    OpOk P S ops ⟨some d, .call { callee := .builtin .min, args := #[x, y], argTypes := ts }, T, pos, aft, none⟩ (opT x ++ opT y) [] [(d, some (.v (min m n)))] [] st :=
  OpOk.value rfl rfl (by simpa using hn) fun st1 hag G w a hr => ⟨.int .i64 (min m n), by
    have e1 := RelV.int (hr.at hag hx fun t ht => by simp [ht])
    have e2 := RelV.int (hr.at hag hy fun t ht => by simp [ht])
    have e3 : (if n < m then n else m) = min m n := by omega
    simp [execOp, resolve, invoke, builtin, Builtin.min_, Builtin.min2, e1, e2, e3], relInt _ _ _ _⟩
theorem op_max {ts : Array TypeId} {m n : Int} (hx : st.ev x = some (.v m)) (hy : st.ev y = some (.v n)) (hn : Nat.blt d st.n = true) :
    OpOk P S ops ⟨some d, .call { callee := .builtin .max, args := #[x, y], argTypes := ts }, T, pos, aft, none⟩ (opT x ++ opT y) [] [(d, some (.v (max m n)))] [] st :=
  OpOk.value rfl rfl (by simpa using hn) fun st1 hag G w a hr => ⟨.int .i64 (max m n), by
    have e1 := RelV.int (hr.at hag hx fun t ht => by simp [ht])
    have e2 := RelV.int (hr.at hag hy fun t ht => by simp [ht])
    have e3 : (if m < n then n else m) = max m n := by omega
    simp [execOp, resolve, invoke, builtin, Builtin.max_, Builtin.max2, e1, e2, e3], relInt _ _ _ _⟩

end ops
end Go.Wt

/- Operations on memory: variables, fields, elements, slices. -/
set_option linter.unusedVariables false
set_option linter.unusedSimpArgs false
namespace Go.Wt
open Go

variable {P : Program} {S : Nat → Prop} {ops : Array Oper} {st : St}

/-- A value that reads as the list `xs`. -/
class Src (α : Type) [Enc α] (av : AV) (xs : outParam (List α)) : Prop where
  rel : ∀ {G w ω u}, RelV G w ω av u → ∃ a cap, u = .slice a xs.length cap ∧ xs.length ≤ cap ∧ Elems G w a xs
section
variable {α : Type} [Enc α] [Plain α]
theorem val_one {c : Value} {β : Type} [Enc β] (h : Enc.agg β = false) : Enc.val β [c] = c := by simp [Enc.val, h]
instance (xs : List α) : Src α (.v xs) xs := ⟨fun {G w ω u} h => by obtain ⟨cs, ⟨a, cap, h1, h2, h3⟩, h4⟩ := h; exact ⟨a, cap, by rw [h4, h1]; rfl, h2, h3⟩⟩
instance (xs : List α) : Src α (.v (CList.mk xs)) xs := ⟨fun {G w ω u} h => by obtain ⟨cs, ⟨a, h1, h3⟩, h4⟩ := h; exact ⟨a, _, by rw [h4, h1]; rfl, Nat.le_refl _, h3⟩⟩
instance (xs : CList α) : Src α (.v xs) xs.l := ⟨fun {G w ω u} h => by obtain ⟨cs, ⟨a, h1, h3⟩, h4⟩ := h; exact ⟨a, _, by rw [h4, h1]; rfl, Nat.le_refl _, h3⟩⟩
instance (xs : List α) (b : Bool) : Src α (.v (OList.mk xs b)) xs := ⟨fun {G w ω u} h => by obtain ⟨cs, ⟨a, cap, h1, h2, h3, _⟩, h4⟩ := h; exact ⟨a, cap, by rw [h4, h1]; rfl, h2, h3⟩⟩
instance (xs : OList α) : Src α (.v xs) xs.l := ⟨fun {G w ω u} h => by obtain ⟨cs, ⟨a, cap, h1, h2, h3, _⟩, h4⟩ := h; exact ⟨a, cap, by rw [h4, h1]; rfl, h2, h3⟩⟩
instance : Src α .nil [] := ⟨fun {G w ω u} h => ⟨none, 0, h, Nat.le_refl _, .inl rfl⟩⟩
end

theorem SlOk.spec {T E bytes} {α : Type} [Enc α] (h : SlOk P T E bytes α) : P.underlying T = some (.slice E) ∧ ∃ i, P.info? E = some i ∧ i.bytes = bytes ∧ i.size = Enc.size α := by
  have h1 := h.ok
  unfold slB at h1
  split at h1
  · rename_i e i h2 h3
    simp only [Bool.and_eq_true, beq_iff_eq] at h1
    obtain ⟨rfl, rfl⟩ := h1
    obtain ⟨i', d, k1, _, k3, _⟩ := h.el.spec
    rw [h3] at k1
    injection k1 with k1
    subst k1
    exact ⟨h2, i, h3, rfl, k3⟩
  · cases h1

section ops
variable {d : Nat} {T pos aft} {x y z : Operand}

theorem op_len {E bytes t : TypeId} {α : Type} [Enc α] {av : AV} {xs : List α} [hsrc : Src α av xs] (sl : SlOk P t E bytes α) (hx : st.ev x = some av) (hn : Nat.blt d st.n = true) :
    OpOk P S ops ⟨some d, .call { callee := .builtin .len, args := #[x], argTypes := #[t] }, T, pos, aft, none⟩ (opT x) [] [(d, some (.v (xs.length : Int)))] [] st :=
  OpOk.value rfl rfl (by simpa using hn) fun st1 hag G w a hr => ⟨.int .i64 xs.length, by
    obtain ⟨ad, cap, h1, _, _⟩ := hsrc.rel (hr.at hag hx fun t ht => ht)
    simp [execOp, resolve, invoke, builtin, Builtin.len_, h1, run_underlying sl.spec.1, goInt], relInt _ _ _ _⟩

/-- An element to be read. -/
theorem op_ix {E bytes t : TypeId} {α : Type} [Enc α] [Plain α] {av : AV} {xs : List α} [hsrc : Src α av xs] {i : Int} {e : α} (sl : SlOk P t E bytes α) (hx : st.ev x = some av) (hy : st.ev y = some (.v i)) (hn : Nat.blt d st.n = true)
    (h0 : 0 ≤ i) (he : xs[i.toNat]? = some e) : OpOk P S ops ⟨some d, .indexAddr t x y, T, pos, aft, none⟩ (opT x ++ opT y) [] [(d, some (.ro e))] [] st :=
  OpOk.value rfl rfl (by simpa using hn) fun st1 hag G w a hr => by
    obtain ⟨ad, cap, h1, h2, h3⟩ := hsrc.rel (hr.at hag hx fun t ht => by simp [ht])
    have e2 := RelV.int (hr.at hag hy fun t ht => by simp [ht])
    have hlt : i.toNat < xs.length := by
      rcases Nat.lt_or_ge i.toNat xs.length with h | h
      · exact h
      · rw [List.getElem?_eq_none h] at he; cases he
    rcases h3 with h3 | ⟨b, off, h3, hB, h4⟩
    · subst h3; simp at hlt
    · obtain ⟨c, hc, hm⟩ := h4 _ _ he
      refine ⟨.pointer (some ⟨b, off + i.toNat * Enc.size α, none⟩), ?_, b, _, c, rfl, hc, hm⟩
      have hi : 0 ≤ i ∧ i < (xs.length : Int) := ⟨h0, by omega⟩
      simp only [execOp, Instr.indexAt, Sem.run_bind, h1, e2, asIntOf, Sem.run_pure, Result.andThen_ok, run_underlying sl.spec.1, h3]
      simp [hi, sl.el.size, add_lit]

/-- A field. -/
theorem fieldAt_run {k off : Nat} {α γ : Type} [Enc α] [Enc γ] {get : α → γ} {set : α → γ → α} {pth} {t : TypeId} (h : FldOk P t k get set off pth) (b o : Nat) (w : World) :
    (Instr.fieldAt t (.pointer (some ⟨b, o, none⟩)) k).run P w = .ok (.pointer (some ⟨b, o + off, none⟩)) w := by
  have h1 := h.ok
  unfold fldB at h1
  split at h1
  · rename_i fs hu
    split at h1
    · rename_i f hf
      simp only [Bool.and_eq_true, beq_iff_eq] at h1
      obtain ⟨h2, h3⟩ := h1
      cases hi : P.info? f.type with
      | none => rw [hi] at h3; cases h3
      | some i =>
        rw [hi] at h3
        have h4 : i.size ≠ 0 := by have := Enc.size_pos (α := γ); simp at h3; omega
        simp [Instr.fieldAt, run_underlying hu, hf, Instr.sureAddr, fieldPlace, sizeOf, typeInfo, hi, h4, h2, add_lit]
    · cases h1
  · cases h1
theorem op_fab {k o : Nat} {α β γ : Type} [Enc α] [Enc β] [Enc γ] {g1 : α → β} {s1 o1 p1} {L : IsLens g1 s1 o1 p1} {get : β → γ} {set off pth} {t : TypeId} (h : FldOk P t k get set off pth) (hx : st.ev x = some (.box o L)) (hn : Nat.blt d st.n = true) :
    OpOk P S ops ⟨some d, .fieldAddr t x k, T, pos, aft, none⟩ (opT x) [] [(d, some (.box o (L.comp h.len)))] [] st :=
  OpOk.value rfl rfl (by simpa using hn) fun st1 hag G w a hr => by
    obtain ⟨b, h1, h2⟩ := hr.at hag hx fun t ht => ht
    exact ⟨_, by simp only [execOp, h2, Sem.run_bind, fieldAt_run h, Result.andThen_ok, Sem.run_pure], b, h1, rfl⟩
theorem op_fae {k o i : Nat} {α β γ : Type} [Enc α] [Enc β] [Enc γ] {g1 : α → β} {s1 o1 p1} {L : IsLens g1 s1 o1 p1} {get : β → γ} {set off pth} {t : TypeId} (h : FldOk P t k get set off pth) (hx : st.ev x = some (.elm o i L)) (hn : Nat.blt d st.n = true) :
    OpOk P S ops ⟨some d, .fieldAddr t x k, T, pos, aft, none⟩ (opT x) [] [(d, some (.elm o i (L.comp h.len)))] [] st :=
  OpOk.value rfl rfl (by simpa using hn) fun st1 hag G w a hr => by
    obtain ⟨b, n, c, h1, h2⟩ := hr.at hag hx fun t ht => ht
    refine ⟨.pointer (some ⟨b, i * Enc.size α + (o1 + off), none⟩), ?_, b, n, c, h1, rfl⟩
    simp only [execOp, h2, Sem.run_bind, fieldAt_run h, Result.andThen_ok, Sem.run_pure, Nat.add_assoc]
theorem op_far {k : Nat} {β γ : Type} [Enc β] [Plain β] [Enc γ] [Plain γ] {e : β} {get : β → γ} {set off pth} {t : TypeId} (h : FldOk P t k get set off pth) (hx : st.ev x = some (.ro e)) (hn : Nat.blt d st.n = true) :
    OpOk P S ops ⟨some d, .fieldAddr t x k, T, pos, aft, none⟩ (opT x) [] [(d, some (.ro (get e)))] [] st :=
  OpOk.value rfl rfl (by simpa using hn) fun st1 hag G w a hr => by
    obtain ⟨b, o, cs, h1, h2, h3⟩ := hr.at hag hx fun t ht => ht
    have hf := h.len.fits
    have hl := Enc.len h2
    refine ⟨_, by simp only [execOp, h1, Sem.run_bind, fieldAt_run h, Result.andThen_ok, Sem.run_pure], b, o + off, _, rfl, Plain.mono (Sh.refl _ _) (h.len.rd_get h2), fun j v hj => ?_⟩
    rw [List.getElem?_take] at hj
    split at hj
    · rw [List.getElem?_drop] at hj
      rw [Nat.add_assoc]
      exact h3 _ _ hj
    · cases hj

/-! Loads -/
theorem op_ldr {γ : Type} [Enc γ] [Plain γ] {e : γ} {t : TypeId} (ty : TyOk P t γ) (hx : st.ev x = some (.ro e)) (hn : Nat.blt d st.n = true) :
    OpOk P S ops ⟨some d, .load t x, T, pos, aft, none⟩ (opT x) [] [(d, some (.v e))] [] st :=
  OpOk.value rfl rfl (by simpa using hn) fun st1 hag G w a hr => by
    obtain ⟨b, o, cs, h1, h2, h3⟩ := hr.at hag hx fun t ht => ht
    refine ⟨Enc.val γ cs, ?_, cs, Plain.mono (Sh.refl _ _) h2, rfl⟩
    simp only [execOp, h1, Instr.loadAt, Instr.sureAddr, Sem.run_bind, Sem.run_pure, Result.andThen_ok, run_load_rd ty h2 (fun j v hj => (h3 j v hj).2)]
theorem cell_load {o : Nat} {α γ : Type} [Enc α] [Enc γ] {get : α → γ} {set off pth} (L : IsLens get set off pth) {c : α} {t : TypeId} (ty : TyOk P t γ) {G w} (ho : RelO G w o (.cell c)) :
    ∃ b cs e, G.hdr o = some (.pointer (some ⟨b, 0, none⟩)) ∧ w.heap[b]? = some (.cells cs.toArray e (0, 0)) ∧ Enc.rd G w (.obj o, []) c cs ∧ (∀ i, i < cs.length → G.own b i = some (.blk o, [])) ∧
      (Instr.loadAt t (.pointer (some ⟨b, off, none⟩))).run P w = .ok (Enc.val γ ((cs.drop off).take (Enc.size γ))) w := by
  obtain ⟨b, cs, e, h1, h2, h3, h4⟩ := ho
  refine ⟨b, cs, e, h1, h2, h3, h4, ?_⟩
  simp only [Instr.loadAt, Instr.sureAddr, Sem.run_bind, Sem.run_pure, Result.andThen_ok]
  refine run_load_rd ty (L.rd_get h3) fun j v hj => ?_
  rw [List.getElem?_take] at hj
  split at hj
  · rw [List.getElem?_drop] at hj
    rw [cl_row h2]; exact hj
  · cases hj
theorem op_ld {o : Nat} {α γ : Type} [Enc α] [Enc γ] [Disl γ] {get : α → γ} {set off pth} {L : IsLens get set off pth} {c : α} {t : TypeId} (ty : TyOk P t γ) (hx : st.ev x = some (.box o L)) (ho : st.ob o = .cell c) (hn : Nat.blt d st.n = true) :
    OpOk P S ops ⟨some d, .load t x, T, pos, aft, none⟩ (opT x) [o] [(d, some (.v (get c)))] [] st :=
  OpOk.value rfl rfl (by simpa using hn) fun st1 hag G w a hr => by
    obtain ⟨b, h1, h2⟩ := hr.at hag hx fun t ht => ht
    have hob := hr.objs o
    rw [hag.ob o (by simp), ho] at hob
    obtain ⟨b', cs, e, k1, k2, k3, k4, k5⟩ := cell_load L ty hob
    have : b' = b := by rw [h1] at k1; simpa using k1.symm
    subst this
    refine ⟨_, by simp only [execOp, h2, Sem.run_bind, k5, Result.andThen_ok, Sem.run_pure], _, Disl.mono (Sh.refl _ _) (Hm.refl _ _) (L.rd_get k3), rfl⟩
/-- A load of what may own room: the copy is to read alone. -/
theorem op_ldd {o : Nat} {α γ : Type} [Enc α] [Enc γ] {get : α → γ} {set off pth} {L : IsLens get set off pth} {c : α} {t : TypeId} (ty : TyOk P t γ) (hx : st.ev x = some (.box o L)) (ho : st.ob o = .cell c) (hn : Nat.blt d st.n = true) :
    OpOk P S ops ⟨some d, .load t x, T, pos, aft, none⟩ (opT x) [o] [(d, some (.v (Enc.dis (get c))))] [] st :=
  OpOk.value rfl rfl (by simpa using hn) fun st1 hag G w a hr => by
    obtain ⟨b, h1, h2⟩ := hr.at hag hx fun t ht => ht
    have hob := hr.objs o
    rw [hag.ob o (by simp), ho] at hob
    obtain ⟨b', cs, e, k1, k2, k3, k4, k5⟩ := cell_load L ty hob
    have : b' = b := by rw [h1] at k1; simpa using k1.symm
    subst this
    refine ⟨_, by simp only [execOp, h2, Sem.run_bind, k5, Result.andThen_ok, Sem.run_pure], _, Enc.mono_dis (Sh.refl _ _) (fun _ _ _ h => h) (L.rd_get k3), rfl⟩
theorem elm_load {o i : Nat} {α γ : Type} [Enc α] [Enc γ] {get : α → γ} {set off pth} (L : IsLens get set off pth) {xs : List α} {c : α} {t : TypeId} (ty : TyOk P t γ) {G w} (ho : RelO G w o (.arr xs)) (hc : xs[i]? = some c) :
    ∃ b cap cs, G.hdr o = some (.slice (some ⟨b, 0, none⟩) xs.length cap) ∧ Enc.rd G w (.obj o, [i]) c cs ∧
      (Instr.loadAt t (.pointer (some ⟨b, i * Enc.size α + off, none⟩))).run P w = .ok (Enc.val γ ((cs.drop off).take (Enc.size γ))) w := by
  obtain ⟨b, cap, cs, e, h1, h2, h3, h4, h5, h6⟩ := ho
  obtain ⟨ce, k1, k2⟩ := h5 i c hc
  refine ⟨b, cap, ce, h1, k1, ?_⟩
  simp only [Instr.loadAt, Instr.sureAddr, Sem.run_bind, Sem.run_pure, Result.andThen_ok]
  refine run_load_rd ty (L.rd_get k1) fun j v hj => ?_
  rw [List.getElem?_take] at hj
  split at hj
  · rw [List.getElem?_drop] at hj
    rw [cl_row h2, Nat.add_assoc]; exact k2 _ _ hj
  · cases hj
theorem op_lde {o i : Nat} {α γ : Type} [Enc α] [Enc γ] [Disl γ] {get : α → γ} {set off pth} {L : IsLens get set off pth} {xs : List α} {c : α} {t : TypeId} (ty : TyOk P t γ) (hx : st.ev x = some (.elm o i L)) (ho : st.ob o = .arr xs) (hc : xs[i]? = some c) (hn : Nat.blt d st.n = true) :
    OpOk P S ops ⟨some d, .load t x, T, pos, aft, none⟩ (opT x) [o] [(d, some (.v (get c)))] [] st :=
  OpOk.value rfl rfl (by simpa using hn) fun st1 hag G w a hr => by
    obtain ⟨b, n, cp, h1, h2⟩ := hr.at hag hx fun t ht => ht
    have hob := hr.objs o
    rw [hag.ob o (by simp), ho] at hob
    obtain ⟨b', cap, cs, k1, k3, k5⟩ := elm_load L ty hob hc
    have : b' = b := by rw [h1] at k1; simp at k1; exact k1.1.symm
    subst this
    refine ⟨_, by simp only [execOp, h2, Sem.run_bind, k5, Result.andThen_ok, Sem.run_pure], _, Disl.mono (Sh.refl _ _) (Hm.refl _ _) (L.rd_get k3), rfl⟩

theorem op_ldde {o i : Nat} {α γ : Type} [Enc α] [Enc γ] {get : α → γ} {set off pth} {L : IsLens get set off pth} {xs : List α} {c : α} {t : TypeId} (ty : TyOk P t γ) (hx : st.ev x = some (.elm o i L)) (ho : st.ob o = .arr xs) (hc : xs[i]? = some c) (hn : Nat.blt d st.n = true) :
    OpOk P S ops ⟨some d, .load t x, T, pos, aft, none⟩ (opT x) [o] [(d, some (.v (Enc.dis (get c))))] [] st :=
  OpOk.value rfl rfl (by simpa using hn) fun st1 hag G w a hr => by
    obtain ⟨b, n, cp, h1, h2⟩ := hr.at hag hx fun t ht => ht
    have hob := hr.objs o
    rw [hag.ob o (by simp), ho] at hob
    obtain ⟨b', cap, cs, k1, k3, k5⟩ := elm_load L ty hob hc
    have : b' = b := by rw [h1] at k1; simp at k1; exact k1.1.symm
    subst this
    refine ⟨_, by simp only [execOp, h2, Sem.run_bind, k5, Result.andThen_ok, Sem.run_pure], _, Enc.mono_dis (Sh.refl _ _) (fun _ _ _ h => h) (L.rd_get k3), rfl⟩
theorem op_nilc_box {o : Nat} {α γ : Type} [Enc α] [Enc γ] {get : α → γ} {set off pth} {L : IsLens get set off pth} (hx : st.ev x = some (.box o L)) (hn : Nat.blt d st.n = true) :
    OpOk P S ops ⟨some d, .nilCheck x, T, pos, aft, none⟩ (opT x) [] [(d, some (.box o L))] [] st :=
  OpOk.value rfl rfl (by simpa using hn) fun st1 hag G w a hr => by
    obtain ⟨b, h1, h2⟩ := hr.at hag hx fun t ht => ht
    exact ⟨_, by simp only [execOp, h2, Sem.run_pure, Sem.run_bind, Result.andThen_ok], b, h1, rfl⟩
theorem op_nilc_elm {o i : Nat} {α γ : Type} [Enc α] [Enc γ] {get : α → γ} {set off pth} {L : IsLens get set off pth} (hx : st.ev x = some (.elm o i L)) (hn : Nat.blt d st.n = true) :
    OpOk P S ops ⟨some d, .nilCheck x, T, pos, aft, none⟩ (opT x) [] [(d, some (.elm o i L))] [] st :=
  OpOk.value rfl rfl (by simpa using hn) fun st1 hag G w a hr => by
    obtain ⟨b, n, c, h1, h2⟩ := hr.at hag hx fun t ht => ht
    exact ⟨_, by simp only [execOp, h2, Sem.run_pure, Sem.run_bind, Result.andThen_ok], b, n, c, h1, rfl⟩

/-! New variables -/
theorem op_box {o : Nat} {α : Type} [Enc α]  {c : α} {av : AV} {t : TypeId} (ty : TyOk P t α) (hx : st.ev x = some av) (hcv : Conv av (.v c)) (ho : st.ob o = .free) (hn : Nat.blt d st.n = true) :
    OpOk P S ops ⟨some d, .box t x, T, pos, aft, none⟩ (opT x) [o] [(d, some (.box o (IsLens.whole α)))] [(o, .cell c)] st := by
  intro st1 hag G w a hr K Q hK
  unfold stepO
  rw [if_pos (by simp [Region.wanted])]
  refine .inl ?_
  obtain ⟨cs, h1, h2⟩ := hcv (ω' := (.obj o, [])) (hr.at hag hx fun t ht => ht)
  have hc : (execOp a.eval ⟨some d, .box t x, T, pos, aft, none⟩).run P w = .ok (.value (.pointer (some ⟨w.heap.size, 0, none⟩))) (w.alloc (.cells cs.toArray t)) := by
    simp only [execOp, Instr.box, newVar, newRow, h2, Enc.val_cells h1, newObj, Sem.run_bind, Sem.run, Sem.run_pure, Result.andThen_ok]
    rfl
  unfold Oper.wp
  rw [hc]
  simp only [Oper.upon]
  obtain ⟨G', hr', hk, hh⟩ := hr.newcell (o := o) (e := t) (by rw [hag.ob o (by simp), ho]) h1
  refine hK _ _ G' ?_ (hk S)
  rw [← St.upd_upd]
  exact hr'.put (by show d < st1.n; rw [hag.n]; simpa using hn) ⟨_, hh, rfl⟩
theorem op_alloc {o : Nat} {α : Type} [Enc α]  {c : α} {t : TypeId} (ty : ZeroOk P t c) (ho : st.ob o = .free) (hn : Nat.blt d st.n = true) :
    OpOk P S ops ⟨some d, .alloc t, T, pos, aft, none⟩ [] [o] [(d, some (.box o (IsLens.whole α)))] [(o, .cell c)] st := by
  intro st1 hag G w a hr K Q hK
  unfold stepO
  rw [if_pos (by simp [Region.wanted])]
  refine .inl ?_
  obtain ⟨i, cs, h1, h2, h3⟩ := ty.ok
  have hc : (execOp a.eval ⟨some d, .alloc t, T, pos, aft, none⟩).run P w = .ok (.value (.pointer (some ⟨w.heap.size, 0, none⟩))) (w.alloc (.cells cs.toArray t)) := by
    simp only [execOp, Instr.alloc, zeroValue, typeInfo, h1, h2, newVar, newRow, newObj, Sem.run_bind, Sem.run, Sem.run_pure, Result.andThen_ok, program, Enc.val_cells (h3 G w ω0)]
    rfl
  unfold Oper.wp
  rw [hc]
  simp only [Oper.upon]
  obtain ⟨G', hr', hk, hh⟩ := hr.newcell (o := o) (e := t) (by rw [hag.ob o (by simp), ho]) (h3 G w (.obj o, []))
  refine hK _ _ G' ?_ (hk S)
  rw [← St.upd_upd]
  exact hr'.put (by show d < st1.n; rw [hag.n]; simpa using hn) ⟨_, hh, rfl⟩

/-! Stores -/
theorem op_st {o : Nat} {α γ : Type} [Enc α] [Enc γ]  {get : α → γ} {set off pth} {L : IsLens get set off pth} {c : α} {e : γ} {av : AV} {t : TypeId} (ty : TyOk P t γ) (hx : st.ev x = some (.box o L)) (hy : st.ev y = some av) (hcv : Conv av (.v e)) (ho : st.ob o = .cell c) :
    OpOk P S ops ⟨none, .store t x y, T, pos, aft, none⟩ (opT x ++ opT y) [o] [] [(o, .cell (set c e))] st := by
  intro st1 hag G w a hr K Q hK
  unfold stepO
  rw [if_pos (by simp [Region.wanted])]
  refine .inl ?_
  obtain ⟨b, h1, h2⟩ := hr.at hag hx fun t ht => by simp [ht]
  obtain ⟨ds, k1, k2⟩ := hcv (ω' := (.obj o, pth)) (hr.at hag hy fun t ht => by simp [ht])
  have hob := hr.objs o
  rw [hag.ob o (by simp), ho] at hob
  obtain ⟨b', cs, te, m1, m2, m3, m4⟩ := hob
  have : b' = b := by rw [h1] at m1; simpa using m1.symm
  subst this
  have hl := Enc.len m3
  have hf := L.fits
  have hdl := Enc.len k1
  have hw : Wr G w o b' cs (cs.take off ++ ds ++ cs.drop (off + Enc.size γ)) te := ⟨m2, m4, by simp; omega, by have := Enc.size_pos (α := α); omega⟩
  have hrun := run_store_rd (P := P) (off := off) ty k1 m2 (by omega)
  have hc : (execOp a.eval ⟨none, .store t x y, T, pos, aft, none⟩).run P w = .ok .skip (w.setRow b' (cs.take off ++ ds ++ cs.drop (off + Enc.size γ)).toArray) := by
    simp only [execOp, h2, k2, Instr.storeAt, Instr.sureAddr, Sem.run_bind, Sem.run_pure, Result.andThen_ok, hrun]
  unfold Oper.wp
  rw [hc]
  simp only [Oper.upon, Act.put]
  refine hK _ _ G ?_ (hw.keep S)
  refine hr.write hw ⟨b', _, te, m1, setRow_heap _ _ _ _ _ _ m2, ?_, fun i hi => m4 i (by rw [hw.len] at hi; exact hi)⟩
  exact L.rd_set m3 (Enc.mono hw.sh (hw.ow (ω := (.obj o, pth)) (by simp)) (fun _ _ _ h => h) k1) hw.sh ((hw.ow (by simp)).weak fun _ h => h.elim) (fun _ _ _ h => h)
theorem op_ste {o i : Nat} {α γ : Type} [Enc α] [Enc γ]  {get : α → γ} {set off pth} {L : IsLens get set off pth} {xs : List α} {c : α} {e : γ} {av : AV} {t : TypeId} (ty : TyOk P t γ) (hx : st.ev x = some (.elm o i L)) (hy : st.ev y = some av) (hcv : Conv av (.v e)) (ho : st.ob o = .arr xs) (hi : xs[i]? = some c) :
    OpOk P S ops ⟨none, .store t x y, T, pos, aft, none⟩ (opT x ++ opT y) [o] [] [(o, .arr (xs.set i (set c e)))] st := by
  intro st1 hag G w a hr K Q hK
  unfold stepO
  rw [if_pos (by simp [Region.wanted])]
  refine .inl ?_
  obtain ⟨b, n, cp, h1, h2⟩ := hr.at hag hx fun t ht => by simp [ht]
  obtain ⟨ds, k1, k2⟩ := hcv (ω' := (.obj o, i :: pth)) (hr.at hag hy fun t ht => by simp [ht])
  have hob := hr.objs o
  rw [hag.ob o (by simp), ho] at hob
  obtain ⟨b', cap, cs, te, m1, m2, m3, m4, m5, m6⟩ := hob
  have : b' = b := by rw [h1] at m1; simp at m1; exact m1.1.symm
  subst this
  have hf := L.fits
  have hdl := Enc.len k1
  have hil : i < xs.length := by
    rcases Nat.lt_or_ge i xs.length with h | h
    · exact h
    · rw [List.getElem?_eq_none h] at hi; cases hi
  have hsz := Enc.size_pos (α := α)
  have hbd : (i + 1) * Enc.size α ≤ cs.length := Nat.le_trans (Nat.mul_le_mul_right _ (by omega)) m4
  rw [Nat.add_mul, Nat.one_mul] at hbd
  obtain ⟨ce, r1, r2⟩ := m5 i c hi
  have hcl := Enc.len r1
  let cs' := cs.take (i * Enc.size α + off) ++ ds ++ cs.drop (i * Enc.size α + off + Enc.size γ)
  have hw : Wr G w o b' cs cs' te := ⟨m2, m6, by simp [cs']; omega, by omega⟩
  have hrun := run_store_rd (P := P) (off := i * Enc.size α + off) ty k1 m2 (by omega)
  have hc : (execOp a.eval ⟨none, .store t x y, T, pos, aft, none⟩).run P w = .ok .skip (w.setRow b' cs'.toArray) := by
    simp only [execOp, h2, k2, Instr.storeAt, Instr.sureAddr, Sem.run_bind, Sem.run_pure, Result.andThen_ok, hrun]; rfl
  unfold Oper.wp
  rw [hc]
  simp only [Oper.upon, Act.put]
  refine hK _ _ G ?_ (hw.keep S)
  refine hr.write hw ⟨b', cap, _, te, by simpa using m1, setRow_heap _ _ _ _ _ _ m2, by simpa using m3, by rw [hw.len]; exact m4, ?_, fun i hi => m6 i (by rw [hw.len] at hi; exact hi)⟩
  intro k x' hx'
  have hlk : ∀ q, q < i * Enc.size α + off ∨ i * Enc.size α + off + Enc.size γ ≤ q → cs'[q]? = cs[q]? := by
    intro q hq
    simp only [cs']
    rcases hq with hq | hq
    · rw [List.append_assoc, List.getElem?_append_left (by simp; omega), List.getElem?_take, if_pos hq]
    · rw [List.getElem?_append_right (by simp; omega), List.getElem?_drop]
      congr 1
      simp
      omega
  by_cases hk : k = i
  · subst hk
    rw [List.getElem?_set_self hil] at hx'
    injection hx' with hx'
    subst hx'
    refine ⟨_, L.rd_set r1 (Enc.mono hw.sh (hw.ow (ω := (.obj o, k :: pth)) (by simp)) (fun _ _ _ h => h) k1) hw.sh ((hw.ow (by simp)).weak fun _ h => h.elim) (fun _ _ _ h => h), fun j v hj => ?_⟩
    by_cases hj1 : j < off
    · rw [List.append_assoc, List.getElem?_append_left (by simp; omega), List.getElem?_take, if_pos hj1] at hj
      rw [hlk _ (.inl (by omega))]
      exact r2 j v hj
    · by_cases hj2 : j < off + Enc.size γ
      · rw [List.getElem?_append_left (by simp; omega), List.getElem?_append_right (by simp; omega)] at hj
        simp only [cs']
        rw [List.getElem?_append_left (by simp; omega), List.getElem?_append_right (by simp; omega), ← hj]
        congr 1
        simp
        omega
      · rw [List.getElem?_append_right (by simp; omega), List.getElem?_drop] at hj
        rw [hlk _ (.inr (by omega))]
        refine r2 j v ?_
        rw [← hj]
        congr 1
        simp
        omega
  · rw [List.getElem?_set_ne (Ne.symm hk)] at hx'
    obtain ⟨c2, q1, q2⟩ := m5 k x' hx'
    refine ⟨c2, Enc.mono hw.sh (hw.ow (by simp)) (fun _ _ _ h => h) q1, fun j v hj => ?_⟩
    have hjl : j < Enc.size α := by
      rw [← Enc.len q1]
      rcases Nat.lt_or_ge j c2.length with h | h
      · exact h
      · rw [List.getElem?_eq_none h] at hj; cases hj
    rw [hlk]
    · exact q2 j v hj
    · rcases Nat.lt_or_gt_of_ne hk with hlt | hlt
      · left
        have : (k + 1) * Enc.size α ≤ i * Enc.size α := Nat.mul_le_mul_right _ hlt
        rw [Nat.add_mul, Nat.one_mul] at this
        omega
      · right
        have : (i + 1) * Enc.size α ≤ k * Enc.size α := Nat.mul_le_mul_right _ hlt
        rw [Nat.add_mul, Nat.one_mul] at this
        omega

/-! Parts of results -/
theorem op_ext {xs : List FV} {k : Nat} {e : FV} (hx : st.ev x = some (.tup xs)) (he : xs[k]? = some e) (hn : Nat.blt d st.n = true) :
    OpOk P S ops ⟨some d, .extract x k, T, pos, aft, none⟩ (opT x) [] [(d, some e.dis.av)] [] st :=
  OpOk.value rfl rfl (by simpa using hn) fun st1 hag G w a hr => by
    obtain ⟨us, h1, h2⟩ := hr.at hag hx fun t ht => ht
    have key : ∀ (l : List FV) (k0 k : Nat) (us : List Value) (e : FV), RelFs G w (opO x) k0 l us → l[k]? = some e → ∃ u ω, us[k]? = some u ∧ RelF G w ω e u := by
      intro l
      induction l with
      | nil => intro k0 k us e _ h; simp at h
      | cons f l ih =>
        intro k0 k us e h hk
        obtain ⟨u, r, rfl, h2, h3⟩ := h
        cases k with
        | zero => simp at hk; subst hk; exact ⟨u, _, rfl, h2⟩
        | succ k => exact ih _ k r e h3 (by simpa using hk)
    obtain ⟨u, ω, k1, k2⟩ := key xs 0 k us e h2 he
    refine ⟨u, by simp only [execOp, h1, Instr.extract]; simp [k1], ?_⟩
    have := k2.mono_dis (ω' := (.tmp d, [])) (Sh.refl G w) (fun _ _ _ h => h)
    cases e with
    | v e => exact this
    | box o L => exact this
end ops
end Go.Wt

/- Structs and slices that are made; append. -/
set_option linter.unusedVariables false
set_option linter.unusedSimpArgs false
namespace Go.Wt
open Go

variable {P : Program} {S : Nat → Prop} {ops : Array Oper} {st : St}

/-! ### Filling -/
theorem splice_get (cs ds : List Value) (off k : Nat) (h : off + ds.length ≤ cs.length) :
    (cs.take off ++ ds ++ cs.drop (off + ds.length))[k]? = if off ≤ k ∧ k < off + ds.length then ds[k - off]? else cs[k]? := by
  by_cases h1 : k < off
  · rw [if_neg (by omega), List.append_assoc, List.getElem?_append_left (by simp; omega), List.getElem?_take, if_pos h1]
  · by_cases h2 : k < off + ds.length
    · rw [if_pos (by omega), List.getElem?_append_left (by simp; omega), List.getElem?_append_right (by simp; omega)]
      congr 1
      simp
      omega
    · rw [if_neg (by omega), List.getElem?_append_right (by simp; omega), List.getElem?_drop]
      congr 1
      simp
      omega
theorem fill_cons {place : Nat → Option (Nat × Nat)} {cells : List Value} {i off : Nat} {v : Value} {vc : List Value} {rest : List (Nat × Value)} (hp : place i = some (off, vc.length)) (hv : v.cells = vc.toArray) (hf : off + vc.length ≤ cells.length) :
    Instr.fill place cells.toArray ((i, v) :: rest) = Instr.fill place (cells.take off ++ vc ++ cells.drop (off + vc.length)).toArray rest := by
  obtain ⟨g1, g2⟩ := Go.Great.foldl_set off vc 0 cells.toArray
  have e : ((vc.zipIdx 0).foldl (fun cs (x : Value × Nat) => cs.setIfInBounds (off + x.2) x.1) cells.toArray) = (cells.take off ++ vc ++ cells.drop (off + vc.length)).toArray := by
    apply Array.ext_getElem?
    intro k
    rw [g2 k]
    have e2 : (cells.take off ++ vc ++ cells.drop (off + vc.length)).toArray[k]? = (cells.take off ++ vc ++ cells.drop (off + vc.length))[k]? := by simp
    rw [e2, splice_get _ _ _ _ hf]
    simp only [Nat.add_zero, List.size_toArray]
    by_cases h1 : off ≤ k ∧ k < off + vc.length
    · rw [if_pos ⟨h1.1, h1.2, by omega⟩, if_pos h1]
    · rw [if_neg (fun h => h1 ⟨h.1, h.2.1⟩), if_neg h1]
      simp
  conv => lhs; unfold Instr.fill
  rw [hp]
  simp only [hv, List.size_toArray]
  rw [if_neg (by simp; omega), ← e]
  congr 1
  rw [← Array.foldl_toList, Array.toList_zipIdx]


/-- The parts of a struct that is built. -/
inductive Parts (P : Program) (T : TypeId) (st : St) {α : Type} [Enc α] : List (Nat × Operand) → α → α → List Nat → Prop
  | nil (x : α) : Parts P T st [] x x []
  | cons {γ : Type} [Enc γ] {k off : Nat} {get : α → γ} {set : α → γ → α} {pth : List Nat} {op : Operand} {rest : List (Nat × Operand)} {x : α} {y : γ} {z : α} {rt : List Nat} {av : AV}
      (h : FldOk P T k get set off pth) (hx : st.ev op = some av) (hc : Conv av (.v y)) (r : Parts P T st rest (set x y) z rt) : Parts P T st ((k, op) :: rest) x z (opT op ++ rt)

/-- All fields have a size. -/
def plB (P : Program) (T : TypeId) : Bool :=
  match P.underlying T with
  | some (.struct fs) => (fs.toList.mapM fun f => (P.info? f.type).map fun i => (f.offset, i.size)).isSome
  | _ => false

theorem mapM_get {fs : List Field} {places : List (Nat × Nat)} (h : fs.mapM (fun f => (P.info? f.type).map fun i => (f.offset, i.size)) = some places) (k : Nat) {f : Field} (hf : fs[k]? = some f) {i : TypeInfo} (hi : P.info? f.type = some i) :
    places[k]? = some (f.offset, i.size) := by
  induction fs generalizing places k with
  | nil => simp at hf
  | cons g fs ih =>
    simp only [List.mapM_cons, Option.bind_eq_bind, Option.pure_def] at h
    cases hg : P.info? g.type with
    | none => simp [hg] at h
    | some j =>
      cases hr : fs.mapM (fun f => (P.info? f.type).map fun i => (f.offset, i.size)) with
      | none => simp [hg, hr] at h
      | some rest =>
        simp [hg, hr] at h
        subst h
        cases k with
        | zero => simp at hf; subst hf; rw [hg] at hi; injection hi with hi; subst hi; rfl
        | succ k => simp at hf; simpa using ih hr k hf

section ops
variable {d : Nat} {T pos aft} {x y z : Operand}
theorem op_build {α : Type} [Enc α] {z0 r : α} {rt : List Nat} {parts : List (Nat × Operand)} {t : TypeId} (hp : Parts P t st parts z0 r rt) (hz : ZeroOk P t z0) (hag : Enc.agg α = true) (hpl : plB P t = true) (hn : Nat.blt d st.n = true) :
    OpOk P S ops ⟨some d, .build t parts.toArray, T, pos, aft, none⟩ rt [] [(d, some (.v r))] [] st :=
  OpOk.value rfl rfl (by simpa using hn) fun st1 hg G w a hr => by
    unfold plB at hpl
    split at hpl
    · rename_i fs hu
      obtain ⟨places, hplaces⟩ := Option.isSome_iff_exists.1 hpl
      obtain ⟨i, zcs, h1, h2, h3⟩ := hz.ok
      have key : ∀ (parts : List (Nat × Operand)) (x0 r : α) (rt' : List Nat), Parts P t st parts x0 r rt' → (∀ t ∈ rt', t ∈ rt) → ∀ cs, Enc.rd G w (.tmp d, []) x0 cs →
          ∃ ds, Instr.fill (places.toArray[·]?) cs.toArray (parts.map fun (i, x) => (i, a.eval x)) = some ds.toArray ∧ Enc.rd G w (.tmp d, []) r ds := by
        intro parts x0 r rt' hp'
        clear hp
        induction hp' with
        | nil x => intro _ cs h; exact ⟨cs, rfl, h⟩
        | @cons γ _ k off get set pth op rest x y z rt av h hx hc r ih =>
          intro hsub cs hcs
          obtain ⟨ds, k1, k2⟩ := hc (ω' := (.tmp d, pth)) (hr.at hg hx fun t ht => hsub _ (List.mem_append_left _ ht))
          have hl := Enc.len k1
          have hcl := Enc.len hcs
          have hf := h.len.fits
          have hok := h.ok
          unfold fldB at hok
          rw [hu] at hok
          simp only at hok
          split at hok
          · rename_i f hfk
            simp only [Bool.and_eq_true, beq_iff_eq] at hok
            obtain ⟨o1, o2⟩ := hok
            cases hi : P.info? f.type with
            | none => rw [hi] at o2; cases o2
            | some j =>
              rw [hi] at o2
              simp only [beq_iff_eq] at o2
              have hpk := mapM_get hplaces _ (by rw [← Array.getElem?_toList] at hfk; exact hfk) hi
              rw [o1, o2, ← hl] at hpk
              simp only [List.map_cons]
              rw [fill_cons (by simpa using hpk) (by rw [k2]; exact Enc.val_cells k1) (by rw [hl, hcl]; exact hf)]
              refine ih (fun t ht => hsub _ (List.mem_append_right _ ht)) _ ?_
              rw [hl]
              exact h.len.rd_set hcs k1 (Sh.refl _ _) (Ow.refl _ _ _ _) (fun _ _ _ h => h)
          · cases hok
      obtain ⟨ds, k1, k2⟩ := key parts z0 r rt hp (fun _ h => h) zcs (h3 G w (.tmp d, []))
      refine ⟨.agg ds.toArray, ?_, ds, k2, by simp [Enc.val, hag]⟩
      have hb : P.built t (parts.map fun (i, x) => (i, a.eval x)) = some ds.toArray := by
        unfold Program.built
        rw [h1, hu]
        simp only [h2, hplaces, Enc.val_cells (h3 G w ω0)]
        exact k1
      simp only [execOp, Sem.run_bind, List.map_toArray]
      rw [run_build w t _ _ hb]
      rfl
    · cases hpl

/-- The elements of a slice that is written out. -/
inductive Elts (st : St) (α : Type) [Enc α] : Nat → List (Nat × Operand) → List α → List Nat → Prop
  | nil (k : Nat) : Elts st α k [] [] []
  | cons {k : Nat} {op : Operand} {rest : List (Nat × Operand)} {x : α} {xs : List α} {rt : List Nat} {av : AV} (hx : st.ev op = some av) (hc : Conv av (.v x)) (r : Elts st α (k + 1) rest xs rt) :
      Elts st α k ((k, op) :: rest) (x :: xs) (opT op ++ rt)
theorem Elts.spec {α : Type} [Enc α] [Plain α] {G w a st1 ro} (hr : RelSt G w a st1) : ∀ {k parts xs rt rt0}, Elts st α k parts xs rt → Agree rt0 ro st st1 → (∀ t ∈ rt, t ∈ rt0) →
    ∃ vs : List Value, (parts.map fun (i, x) => (i, a.eval x)) = ((vs.zipIdx k).map fun x => (x.2, x.1)) ∧ vs.length = xs.length ∧
      ∀ (i : Nat) (x : α), xs[i]? = some x → ∃ cs, vs[i]? = some (Enc.val α cs) ∧ Enc.rd G w ω0 x cs := by
  intro k parts xs rt rt0 h hg hs
  induction h with
  | nil k => exact ⟨[], rfl, rfl, fun i x h => by simp at h⟩
  | cons hx hc r ih =>
    obtain ⟨cs, k1, k2⟩ := hc (ω' := ω0) (hr.at hg hx fun t ht => hs _ (List.mem_append_left _ ht))
    obtain ⟨vs, h1, h2, h3⟩ := ih (fun t ht => hs _ (List.mem_append_right _ ht))
    refine ⟨Enc.val α cs :: vs, ?_, by simp [h2], fun i x hi => ?_⟩
    · simp only [List.map_cons, List.zipIdx_cons, h1, k2]
    · cases i with
      | zero => simp at hi; subst hi; exact ⟨cs, rfl, k1⟩
      | succ i => exact h3 i x (by simpa using hi)
end ops

end Go.Wt

/- Rows: written out, made, appended to. -/
set_option linter.unusedVariables false
set_option linter.unusedSimpArgs false
namespace Go.Wt
open Go

variable {P : Program} {S : Nat → Prop} {ops : Array Oper} {st : St}

theorem objs_frame {G w G' w'} (h : ∀ o, RelO G w o (st.ob o)) (hs : Sh G w G' w') (hh : ∀ o, G'.hdr o = G.hdr o) (ho : ∀ o, Ow G w (.obj o, []) G' w' (.obj o, []) never)
    (hb : ∀ b o cs e, w.heap[b]? = some (.cells cs e (0, 0)) → (∀ i, i < cs.size → G.own b i = some (.blk o, [])) → w'.heap[b]? = w.heap[b]? ∧ ∀ i, G.own b i = some (.blk o, []) → G'.own b i = some (.blk o, [])) :
    ∀ o, RelO G' w' o (st.ob o) := by
  intro o
  have hx := h o
  cases hob : st.ob o with
  | free => rw [hob] at hx; exact (hh o).trans hx
  | dead => trivial
  | cell x =>
    rw [hob] at hx
    obtain ⟨b, cs, e, h1, h2, h3, h4⟩ := hx
    obtain ⟨k1, k2⟩ := hb b o _ e h2 (fun i hi => h4 i (by simpa using hi))
    exact ⟨b, cs, e, (hh o).trans h1, k1.trans h2, Enc.mono hs (ho o) (fun o' _ v hv => (hh o').trans hv) h3, fun i hi => k2 i (h4 i hi)⟩
  | arr xs =>
    rw [hob] at hx
    obtain ⟨b, cap, cs, e, h1, h2, h3, h4, h5, h6⟩ := hx
    obtain ⟨k1, k2⟩ := hb b o _ e h2 (fun i hi => h6 i (by simpa using hi))
    refine ⟨b, cap, cs, e, (hh o).trans h1, k1.trans h2, h3, h4, fun i x hx => ?_, fun i hi => k2 i (h6 i hi)⟩
    obtain ⟨c, c1, c2⟩ := h5 i x hx
    exact ⟨c, Enc.mono hs ((ho o).sub [i] fun _ h => h) (fun o' _ v hv => (hh o').trans hv) c1, c2⟩

theorem flat_at {s : Nat} (hs : 0 < s) {vs : List Value} (h1 : ∀ v ∈ vs, v.cells.size = s) {i : Nat} {v : Value} {c : List Value} (hv : vs[i]? = some v) (hc : v.cells = c.toArray) {j : Nat} (hj : j < s) :
    (vs.flatMap fun v => v.cells.toList)[i * s + j]? = c[j]? := by
  rw [Go.Great.flat_get hs vs h1]
  have e1 : (i * s + j) / s = i := by rw [Nat.mul_comm, Nat.mul_add_div hs, Nat.div_eq_of_lt hj, Nat.add_zero]
  have e2 : (i * s + j) % s = j := by rw [Nat.mul_comm, Nat.mul_add_mod, Nat.mod_eq_of_lt hj]
  rw [e1, e2, hv]
  simp [hc]

/-- Cells in which the elements of a list lie side by side. -/
def Rows {α : Type} [Enc α] (G : Gh) (w : World) (xs : List α) (cs : List Value) : Prop :=
  xs.length * Enc.size α ≤ cs.length ∧ ∀ (i : Nat) (x : α), xs[i]? = some x → ∃ c, Enc.rd G w ω0 x c ∧ ∀ (j : Nat) (v : Value), c[j]? = some v → cs[i * Enc.size α + j]? = some v

theorem lt_mul_of {i n s j : Nat} (hi : i < n) (hj : j < s) : i * s + j < n * s := by
  have : (i + 1) * s ≤ n * s := Nat.mul_le_mul_right _ hi
  rw [Nat.add_mul, Nat.one_mul] at this
  omega
theorem getElem?_lt {β : Type} {l : List β} {i : Nat} {x : β} (h : l[i]? = some x) : i < l.length := by
  rcases Nat.lt_or_ge i l.length with h' | h'
  · exact h'
  · rw [List.getElem?_eq_none h'] at h; cases h

/-- A new row, and its room. -/
theorem RelSt.newrow {α : Type} [Enc α] [Plain α] {G w a d} {xs : List α} {cs : List Value} {e : TypeId} {cap : Nat} (h : RelSt G w a st) (hr : Rows G w xs cs) (hc : xs.length ≤ cap) (hcs : cap * Enc.size α ≤ cs.length) (hB : xs.length ≤ big) :
    ∃ G', RelSt G' (w.alloc (.cells cs.toArray e)) a st ∧ (∀ S, Keep S G w G' (w.alloc (.cells cs.toArray e))) ∧
      RelV G' (w.alloc (.cells cs.toArray e)) (.tmp d, []) (.v (OList.mk xs true)) (.slice (some ⟨w.heap.size, 0, none⟩) xs.length cap) := by
  refine ⟨G.blk w.heap.size (fun i => if i < xs.length * Enc.size α then none else some (.tmp d, [])), h.newblk _ _, fun S => Keep.blk S, _, ⟨some ⟨w.heap.size, 0, none⟩, cap, rfl, hc, .inr ⟨_, _, rfl, hB, fun i x hx => ?_⟩, fun _ => .inr ⟨_, _, rfl, fun j h1 h2 => ?_⟩⟩, rfl⟩
  · obtain ⟨c, c1, c2⟩ := hr.2 i x hx
    refine ⟨c, Plain.mono Sh.blk c1, fun j v hj => ?_⟩
    have hjl : j < Enc.size α := by rw [← Enc.len c1]; exact getElem?_lt hj
    rw [Nat.zero_add]
    have hlt := lt_mul_of (getElem?_lt hx) hjl
    refine ⟨by simp only [Gh.blk]; rw [if_pos trivial, if_pos hlt], ?_⟩
    have := c2 j v hj
    show (w.alloc _).cell? _ = _
    rw [World.cell?_alloc_new]
    simpa using this
  · rw [Nat.zero_add]
    have : j < cs.length := Nat.lt_of_lt_of_le h2 hcs
    refine ⟨by simp only [Gh.blk]; rw [if_pos trivial, if_neg (by simp at h1 ⊢; exact h1)], ⟨cs[j], ?_⟩, World.frozen?_alloc_new _ _ _ _⟩
    show (w.alloc _).cell? _ = _
    rw [World.cell?_alloc_new]
    simp [this]
/-- A new row that is an object. -/
theorem RelSt.newarr {α : Type} [Enc α] [Plain α] {G w a} {o : Nat} {xs : List α} {cs : List Value} {e : TypeId} {cap : Nat} (h : RelSt G w a st) (ho : st.ob o = .free) (hr : Rows G w xs cs) (hc : xs.length ≤ cap) (hcs : cap * Enc.size α ≤ cs.length) :
    ∃ G', RelSt G' (w.alloc (.cells cs.toArray e)) a (st.upd [] [(o, .arr xs)]) ∧ (∀ S, Keep S G w G' (w.alloc (.cells cs.toArray e))) ∧
      G'.hdr o = some (.slice (some ⟨w.heap.size, 0, none⟩) xs.length cap) := by
  have hn : G.hdr o = none := by have := h.objs o; rw [ho] at this; exact this
  have h1 := h.newblk (.cells cs.toArray e) (fun _ => some (.blk o, []))
  refine ⟨_, h1.sethdr ho (.slice (some ⟨w.heap.size, 0, none⟩) xs.length cap) (x := .arr xs) ?_, fun S => (Keep.blk S).trans (Keep.hd hn), by simp [Gh.hd]⟩
  refine ⟨w.heap.size, cap, cs, e, by simp [Gh.hd], heap_alloc_eq _ _, hc, hcs, fun i x hx => ?_, fun i hi => by simp [Gh.hd, Gh.blk]⟩
  obtain ⟨c, c1, c2⟩ := hr.2 i x hx
  refine ⟨c, ?_, c2⟩
  have := Plain.mono (ω' := (.obj o, [i])) (Sh.blk (x := .cells cs.toArray e) (f := fun _ => some (.blk o, []))) c1
  exact Plain.mono (G := G.blk w.heap.size fun _ => some (.blk o, [])) (w := w.alloc (.cells cs.toArray e)) (fun b i v h1 h2 => ⟨h1, h2⟩) this

theorem Enc.val_size {α : Type} [Enc α] {G w ω} {x : α} {cs} (h : Enc.rd G w ω x cs) : (Enc.val α cs).cells.size = Enc.size α := by
  rw [Enc.val_cells h]; simpa using Enc.len h

section ops
variable {d : Nat} {T pos aft} {x y z : Operand}

theorem buildSlice_run {α : Type} [Enc α] [Plain α] {t E : TypeId} {bytes n : Nat} {z0 : α} {parts : List (Nat × Operand)} {xs : List α} {rt rt0 ro} (sl : SlOk P t E bytes α) (hz : ZeroOk P E z0) (he : Elts st α 0 parts xs rt) (hnn : xs.length = n) (hsmall : n * Enc.size α ≤ 16777216)
    {st1 G w a} (hg : Agree rt0 ro st st1) (hr : RelSt G w a st1) (hsub : ∀ t ∈ rt, t ∈ rt0) :
    ∃ cs, cs.length = n * Enc.size α ∧ Rows G w xs cs ∧ (execOp a.eval ⟨some d, .buildSlice t n parts.toArray, T, pos, aft, none⟩).run P w = .ok (.value (.slice (some ⟨w.heap.size, 0, none⟩) n n)) (w.alloc (.cells cs.toArray E)) := by
  obtain ⟨vs, h1, h2, h3⟩ := he.spec hr hg hsub
  obtain ⟨hu, i, hi, hby, hsz⟩ := sl.spec
  obtain ⟨i', zcs, k1, k2, k3⟩ := hz.ok
  rw [hi] at k1
  injection k1 with k1
  subst k1
  subst hnn
  have hvs : ∀ v ∈ vs, v.cells.size = Enc.size α := by
    intro v hv
    obtain ⟨k, hk⟩ := List.getElem?_of_mem hv
    have hkl : k < xs.length := by rw [← h2]; exact getElem?_lt hk
    obtain ⟨cs, c1, c2⟩ := h3 k _ (List.getElem?_eq_getElem hkl)
    rw [c1] at hk
    injection hk with hk
    rw [← hk]
    exact Enc.val_size c2
  have hsp := Enc.size_pos (α := α)
  have hlen : (vs.flatMap fun v => v.cells.toList).length = xs.length * Enc.size α := by
    rw [← h2]
    clear h1 h2 h3 he hsmall
    induction vs with
    | nil => simp
    | cons v vs ih =>
      rw [List.flatMap_cons, List.length_append, ih (fun u hu => hvs u (List.mem_cons_of_mem _ hu)), List.length_cons, Nat.add_mul, Nat.one_mul]
      have := hvs v List.mem_cons_self
      simp [this]
      omega
  refine ⟨vs.flatMap fun v => v.cells.toList, hlen, ⟨by rw [hlen]; exact Nat.le_refl _, fun i x hx => ?_⟩, ?_⟩
  · obtain ⟨cs, c1, c2⟩ := h3 i x hx
    refine ⟨cs, c2, fun j v hj => ?_⟩
    have hjl : j < Enc.size α := by rw [← Enc.len c2]; exact getElem?_lt hj
    rw [flat_at hsp hvs c1 (Enc.val_cells c2) hjl]; exact hj
  · by_cases hz0 : xs.length * Enc.size α = 0
    · have hx0 : xs.length = 0 := by
        rcases Nat.mul_eq_zero.1 hz0 with h | h
        · exact h
        · omega
      have hv0 : vs = [] := List.eq_nil_of_length_eq_zero (by omega)
      subst hv0
      have hp0 : parts = [] := by simpa using h1
      subst hp0
      have hr0 : Array.map (fun x => (default : Value)) (Array.range 0) = #[] := by rw [Array.range_zero']; simp
      simp [execOp, Instr.buildSlice, run_underlying hu, sizeOf, typeInfo, hi, hx0, Instr.fill, newRow, newObj, Sem.run, hr0]
    · have hzs : zcs.length = Enc.size α := Enc.len (k3 G w ω0)
      have hfill := Go.Great.fill_whole hsp vs ((Array.range (xs.length * i.size)).map ((Enc.val α zcs).cells[· % (Enc.val α zcs).cells.size]!)) hvs (by simp [h2, hsz])
      rw [← h1] at hfill
      have := run_buildSlice (P := P) w t E xs.length (parts.map fun (i, x) => (i, a.eval x)).toArray _ i (Enc.val α zcs) hu hi k2 (by rw [hsz]; show ¬ _ > 16777216; omega) (by rw [hsz]; exact hz0) (by rw [hsz] at hfill ⊢; exact hfill)
      simp only [execOp, List.map_toArray, Sem.run_bind, this, Result.andThen_ok, Sem.run_pure]

theorem op_bsl {α : Type} [Enc α] [Plain α] {t E : TypeId} {bytes n : Nat} {z0 : α} {parts : List (Nat × Operand)} {xs : List α} {rt} (sl : SlOk P t E bytes α) (hz : ZeroOk P E z0) (he : Elts st α 0 parts xs rt) (hnn : xs.length = n) (hsmall : n * Enc.size α ≤ 16777216) (hn : Nat.blt d st.n = true) :
    OpOk P S ops ⟨some d, .buildSlice t n parts.toArray, T, pos, aft, none⟩ rt [] [(d, some (.v (OList.mk xs true)))] [] st := by
  intro st1 hg G w a hr K Q hK
  unfold stepO
  rw [if_pos (by simp [Region.wanted])]
  refine .inl ?_
  obtain ⟨cs, hl, hrows, hrun⟩ := buildSlice_run (d := d) (T := T) (pos := pos) (aft := aft) sl hz he hnn hsmall hg hr (fun _ h => h)
  unfold Oper.wp
  rw [hrun]
  simp only [Oper.upon]
  obtain ⟨G', h1, h2, h3⟩ := hr.newrow (d := d) (e := E) hrows (Nat.le_refl _) (by rw [hl, hnn]; exact Nat.le_refl _) (by have := Nat.le_mul_of_pos_right n (Enc.size_pos (α := α)); rw [hnn]; unfold big; omega)
  rw [hnn] at h3
  exact hK _ _ G' (h1.put (av := some _) (by rw [hg.n]; simpa using hn) h3) (h2 S)
theorem op_bsa {o : Nat} {α : Type} [Enc α] [Plain α] {t E : TypeId} {bytes n : Nat} {z0 : α} {parts : List (Nat × Operand)} {xs : List α} {rt} (sl : SlOk P t E bytes α) (hz : ZeroOk P E z0) (he : Elts st α 0 parts xs rt) (hnn : xs.length = n) (hsmall : n * Enc.size α ≤ 16777216) (ho : st.ob o = .free) (hn : Nat.blt d st.n = true) :
    OpOk P S ops ⟨some d, .buildSlice t n parts.toArray, T, pos, aft, none⟩ rt [o] [(d, some (.v (ARef.mk o)))] [(o, .arr xs)] st := by
  intro st1 hg G w a hr K Q hK
  unfold stepO
  rw [if_pos (by simp [Region.wanted])]
  refine .inl ?_
  obtain ⟨cs, hl, hrows, hrun⟩ := buildSlice_run (d := d) (T := T) (pos := pos) (aft := aft) sl hz he hnn hsmall hg hr (fun _ h => h)
  unfold Oper.wp
  rw [hrun]
  simp only [Oper.upon]
  obtain ⟨G', h1, h2, h3⟩ := hr.newarr (o := o) (e := E) (by rw [hg.ob o (by simp), ho]) hrows (Nat.le_refl _) (by rw [hl, hnn]; exact Nat.le_refl _)
  rw [hnn] at h3
  refine hK _ _ G' ?_ (h2 S)
  rw [← St.upd_upd]
  exact h1.put (av := some _) (by show d < st1.n; rw [hg.n]; simpa using hn) ⟨_, ⟨_, _, _, rfl, h3⟩, rfl⟩

/-! A slice with room that is made -/
theorem makeSlice_run {α : Type} [Enc α] [Plain α] {t E : TypeId} {bytes : Nat} {z0 : α} {n : Int} {rt0 ro} (sl : SlOk P t E bytes α) (hz : ZeroOk P E z0) (hx : st.ev x = some (.v (0 : Int))) (hy : st.ev y = some (.v n)) (h0 : 0 ≤ n) (hb : (bytes : Int) * n ≤ 281474976710656) (hn63 : n ≤ 9223372036854775807)
    {st1 G w a} (hg : Agree rt0 ro st st1) (hr : RelSt G w a st1) (hsub : ∀ t ∈ opT x ++ opT y, t ∈ rt0) :
    ∃ cs : List Value, cs.length = n.toNat * Enc.size α ∧ (execOp a.eval ⟨some d, .makeSlice t x y, T, pos, aft, none⟩).run P w = .ok (.value (.slice (some ⟨w.heap.size, 0, none⟩) 0 n.toNat)) (w.alloc (.cells cs.toArray E)) := by
  obtain ⟨hu, i, hi, hby, hsz⟩ := sl.spec
  obtain ⟨i', zcs, k1, k2, k3⟩ := hz.ok
  rw [hi] at k1
  injection k1 with k1
  subst k1
  have e1 := RelV.int (hr.at hg hx fun t ht => hsub _ (by simp [ht]))
  have e2 := RelV.int (hr.at hg hy fun t ht => hsub _ (by simp [ht]))
  refine ⟨(madeCells (Enc.val α zcs).cells (n.toNat * i.size)).toList, by simp [size_madeCells, hsz], ?_⟩
  have := run_make (P := P) w t E i _ hu hi k2 .i64 .i64 0 n (by omega) h0 (by rw [hby]; exact hb) hn63
  simp only [execOp, e1, e2, Sem.run_bind, this, Result.andThen_ok, Sem.run_pure, Array.toArray_toList]
  rfl
theorem Rows.nil {α : Type} [Enc α] (G : Gh) (w : World) (cs : List Value) : Rows G w ([] : List α) cs := ⟨by simp, fun i x h => by simp at h⟩
theorem op_mkl {α : Type} [Enc α] [Plain α] {t E : TypeId} {bytes : Nat} {z0 : α} {n : Int} (sl : SlOk P t E bytes α) (hz : ZeroOk P E z0) (hx : st.ev x = some (.v (0 : Int))) (hy : st.ev y = some (.v n)) (h0 : 0 ≤ n) (hb : (bytes : Int) * n ≤ 281474976710656) (hn63 : n ≤ 9223372036854775807) (hn : Nat.blt d st.n = true) :
    OpOk P S ops ⟨some d, .makeSlice t x y, T, pos, aft, none⟩ (opT x ++ opT y) [] [(d, some (.v (OList.mk ([] : List α) true)))] [] st := by
  intro st1 hg G w a hr K Q hK
  unfold stepO
  rw [if_pos (by simp [Region.wanted])]
  refine .inl ?_
  obtain ⟨cs, hl, hrun⟩ := makeSlice_run (d := d) (T := T) (pos := pos) (aft := aft) sl hz hx hy h0 hb hn63 hg hr (fun _ h => h)
  unfold Oper.wp
  rw [hrun]
  simp only [Oper.upon]
  obtain ⟨G', h1, h2, h3⟩ := hr.newrow (d := d) (e := E) (xs := ([] : List α)) (cap := n.toNat) (Rows.nil _ _ _) (by simp) (by rw [hl]; exact Nat.le_refl _) (by simp)
  exact hK _ _ G' (h1.put (av := some _) (by rw [hg.n]; simpa using hn) h3) (h2 S)
theorem op_mka {o : Nat} {α : Type} [Enc α] [Plain α] {t E : TypeId} {bytes : Nat} {z0 : α} {n : Int} (sl : SlOk P t E bytes α) (hz : ZeroOk P E z0) (hx : st.ev x = some (.v (0 : Int))) (hy : st.ev y = some (.v n)) (h0 : 0 ≤ n) (hb : (bytes : Int) * n ≤ 281474976710656) (hn63 : n ≤ 9223372036854775807) (ho : st.ob o = .free) (hn : Nat.blt d st.n = true) :
    OpOk P S ops ⟨some d, .makeSlice t x y, T, pos, aft, none⟩ (opT x ++ opT y) [o] [(d, some (.v (ARef.mk o)))] [(o, .arr ([] : List α))] st := by
  intro st1 hg G w a hr K Q hK
  unfold stepO
  rw [if_pos (by simp [Region.wanted])]
  refine .inl ?_
  obtain ⟨cs, hl, hrun⟩ := makeSlice_run (d := d) (T := T) (pos := pos) (aft := aft) sl hz hx hy h0 hb hn63 hg hr (fun _ h => h)
  unfold Oper.wp
  rw [hrun]
  simp only [Oper.upon]
  obtain ⟨G', h1, h2, h3⟩ := hr.newarr (o := o) (e := E) (xs := ([] : List α)) (cap := n.toNat) (by rw [hg.ob o (by simp), ho]) (Rows.nil _ _ _) (by simp) (by rw [hl]; exact Nat.le_refl _)
  refine hK _ _ G' ?_ (h2 S)
  rw [← St.upd_upd]
  exact h1.put (av := some _) (by show d < st1.n; rw [hg.n]; simpa using hn) ⟨_, ⟨_, _, _, rfl, h3⟩, rfl⟩
end ops

/-! ### append -/
/-- What may be appended to: its room is its own, or there is none. -/
class Grow (α : Type) [Enc α] (av : AV) (xs : outParam (List α)) : Prop where
  rel : ∀ {G w ω u}, RelV G w ω av u → ∃ a cap, u = .slice a xs.length cap ∧ xs.length ≤ cap ∧ Elems G w a xs ∧ Tail G w ω a (xs.length * Enc.size α) (cap * Enc.size α)
section
variable {α : Type} [Enc α] [Plain α]
instance : Grow α .nil [] := ⟨fun {G w ω u} h => ⟨none, 0, h, Nat.le_refl _, .inl rfl, .inl (by simp)⟩⟩
instance (xs : List α) : Grow α (.v (CList.mk xs)) xs := ⟨fun {G w ω u} h => by obtain ⟨cs, ⟨a, h1, h3⟩, h4⟩ := h; exact ⟨a, _, by rw [h4, h1]; rfl, Nat.le_refl _, h3, .inl (Nat.le_refl _)⟩⟩
instance (xs : CList α) : Grow α (.v xs) xs.l := ⟨fun {G w ω u} h => by obtain ⟨cs, ⟨a, h1, h3⟩, h4⟩ := h; exact ⟨a, _, by rw [h4, h1]; rfl, Nat.le_refl _, h3, .inl (Nat.le_refl _)⟩⟩
instance (xs : List α) : Grow α (.v (OList.mk xs true)) xs := ⟨fun {G w ω u} h => by obtain ⟨cs, ⟨a, cap, h1, h2, h3, h5⟩, h4⟩ := h; exact ⟨a, cap, by rw [h4, h1]; rfl, h2, h3, h5 rfl⟩⟩
end

/-- The cells of shared elements. -/
theorem Elems.cells {α : Type} [Enc α] {G w a} {xs : List α} (h : Elems G w a xs) : ∃ cs : List Value, cs.length = xs.length * Enc.size α ∧ Rows G w xs cs ∧ (∀ v ∈ cs, v.oneCell' = true) ∧
    (xs = [] ∨ ∃ b off, a = some ⟨b, off, none⟩ ∧ ∀ j v, cs[j]? = some v → cl w b (off + j) = some v) := by
  rcases h with h | ⟨b, off, ha, hB, h⟩
  · subst h; exact ⟨[], by simp, Rows.nil _ _ _, by simp, .inl rfl⟩
  · have key : ∀ n, n ≤ xs.length → ∃ cs : List Value, cs.length = n * Enc.size α ∧ (∀ v ∈ cs, v.oneCell' = true) ∧ (∀ j v, cs[j]? = some v → cl w b (off + j) = some v) ∧
        ∀ (i : Nat) (x : α), i < n → xs[i]? = some x → ∃ c, Enc.rd G w ω0 x c ∧ ∀ (j : Nat) (v : Value), c[j]? = some v → cs[i * Enc.size α + j]? = some v := by
      intro n
      induction n with
      | zero => intro _; exact ⟨[], by simp, by simp, by simp, fun i x h => by omega⟩
      | succ n ih =>
        intro hn
        obtain ⟨cs, h1, h2, h3, h4⟩ := ih (by omega)
        have hx : xs[n]? = some (xs[n]'(by omega)) := List.getElem?_eq_getElem (by omega)
        obtain ⟨c, c1, c2⟩ := h n _ hx
        have hcl := Enc.len c1
        refine ⟨cs ++ c, by rw [List.length_append, h1, hcl, Nat.add_mul, Nat.one_mul], ?_, ?_, ?_⟩
        · intro v hv
          rcases List.mem_append.1 hv with hv | hv
          · exact h2 v hv
          · exact Enc.one c1 v hv
        · intro j v hj
          by_cases hjl : j < cs.length
          · rw [List.getElem?_append_left hjl] at hj; exact h3 j v hj
          · rw [List.getElem?_append_right (by omega)] at hj
            have := (c2 _ v hj).2
            rwa [show off + n * Enc.size α + (j - cs.length) = off + j by omega] at this
        · intro i x hi hxi
          by_cases hin : i < n
          · obtain ⟨c', c1', c2'⟩ := h4 i x hin hxi
            refine ⟨c', c1', fun j v hj => ?_⟩
            have hjl : j < Enc.size α := by rw [← Enc.len c1']; exact getElem?_lt hj
            rw [List.getElem?_append_left (by rw [h1]; exact lt_mul_of hin hjl)]
            exact c2' j v hj
          · have : i = n := by omega
            subst this
            rw [hx] at hxi
            injection hxi with hxi
            subst hxi
            refine ⟨c, c1, fun j v hj => ?_⟩
            rw [List.getElem?_append_right (by omega)]
            rw [show i * Enc.size α + j - cs.length = j by omega]
            exact hj
    obtain ⟨cs, h1, h2, h3, h4⟩ := key xs.length (Nat.le_refl _)
    exact ⟨cs, h1, ⟨by rw [h1]; exact Nat.le_refl _, fun i x hx => h4 i x (getElem?_lt hx) hx⟩, h2, .inr ⟨b, off, ha, h3⟩⟩

theorem Rows.append {α : Type} [Enc α] {G w} {xs ys : List α} {c1 c2 c3 : List Value} (h1 : Rows G w xs c1) (h2 : Rows G w ys c2) (l1 : c1.length = xs.length * Enc.size α) (l2 : c2.length = ys.length * Enc.size α) : Rows G w (xs ++ ys) (c1 ++ c2 ++ c3) := by
  refine ⟨by simp [l1, l2, Nat.add_mul], fun i x hx => ?_⟩
  by_cases hi : i < xs.length
  · rw [List.getElem?_append_left hi] at hx
    obtain ⟨c, k1, k2⟩ := h1.2 i x hx
    refine ⟨c, k1, fun j v hj => ?_⟩
    have hjl : j < Enc.size α := by rw [← Enc.len k1]; exact getElem?_lt hj
    have := lt_mul_of hi hjl
    rw [List.append_assoc, List.getElem?_append_left (by omega)]
    exact k2 j v hj
  · rw [List.getElem?_append_right (by omega)] at hx
    obtain ⟨c, k1, k2⟩ := h2.2 _ x hx
    refine ⟨c, k1, fun j v hj => ?_⟩
    have hjl : j < Enc.size α := by rw [← Enc.len k1]; exact getElem?_lt hj
    have hlt := lt_mul_of (getElem?_lt hx) hjl
    have e : i * Enc.size α + j - c1.length = (i - xs.length) * Enc.size α + j := by
      have : i * Enc.size α = xs.length * Enc.size α + (i - xs.length) * Enc.size α := by rw [← Nat.add_mul]; congr 1; omega
      omega
    have e2 : i * Enc.size α = xs.length * Enc.size α + (i - xs.length) * Enc.size α := by rw [← Nat.add_mul]; congr 1; omega
    rw [List.append_assoc, List.getElem?_append_right (by omega), e, List.getElem?_append_left (by omega)]
    exact k2 j v hj

def putAt (w : World) (base : Option Addr) (k : Nat) (news : List Value) : World :=
  match base with
  | some a => w.setCells a.block (a.off + k) news
  | none => w
theorem run_app_room (w : World) (t t2 ty e e2 : TypeId) (i : TypeInfo) (ht : P.underlying t = some (.slice e)) (ht2 : P.underlying t2 = some (.slice e2)) (hi : P.info? e = some i)
    (base : Option Addr) (sLen sCap : Nat) (xa : Option Addr) (m c : Nat) (news : List Value) (hl : news.length = m * i.size)
    (hnews : m = 0 ∨ ∃ b o, xa = some ⟨b, o, none⟩ ∧ ∀ j u, news[j]? = some u → cl w b (o + j) = some u) (h1 : ∀ u ∈ news, u.oneCell' = true) (hroom : sLen + m ≤ sCap)
    (hdst : news = [] ∨ ∃ b o, base = some ⟨b, o, none⟩ ∧ ∀ j, j < news.length → (cl w b (o + sLen * i.size + j)).isSome = true ∧ fz w b (o + sLen * i.size + j) = false) :
    (Builtin.append_ #[t, t2] ty #[.slice base sLen sCap, .slice xa m c]).run P w =
      .ok (.slice base (sLen + m) sCap) (putAt w base (sLen * i.size) news) := by
  have hf : (Builtin.firstCells i.size m (.slice xa m c)).run P w = .ok news.toArray w := by
    rcases hnews with h0 | ⟨b, o, rfl, h⟩
    · subst h0
      have : news = [] := List.eq_nil_of_length_eq_zero (by simpa using hl)
      subst this
      cases xa <;> simp [Builtin.firstCells, loadCells, loadCellsFrom]
    · exact run_firstCells_some w i.size m _ m c news hl (fun j v hj => by rw [add_lit]; exact h j v hj)
  have hcore : (Builtin.append_ #[t, t2] ty #[.slice base sLen sCap, .slice xa m c]).run P w =
      (((match base with | some a => storeCells (a.add (sLen * i.size)) news | none => pure ()) : Sem Unit).run P w).andThen fun _ w' => .ok (.slice base (sLen + m) sCap) w' := by
    cases base <;> simp [Builtin.append_, run_underlying ht, run_underlying ht2, sizeOf, typeInfo, hi, Builtin.lenOf, hroom, hf]
  rw [hcore]
  rcases hdst with h0 | ⟨b, o, rfl, h⟩
  · subst h0
    cases base <;> simp [storeCells, World.setCells, putAt]
  · have := run_storeCells_cells (P := P) b (o + sLen * i.size) news 0 w (fun j hj => (h j hj).1) (fun j hj => (h j hj).2) h1
    simp only [add_lit, this, Nat.add_zero, Result.andThen_ok, putAt]
theorem run_app_grow (w : World) (t t2 ty e e2 : TypeId) (i : TypeInfo) (z : Value) (ht : P.underlying t = some (.slice e)) (ht2 : P.underlying t2 = some (.slice e2)) (hi : P.info? e = some i) (hz : i.zero = some z)
    (base : Option Addr) (sLen sCap : Nat) (olds : List Value) (hlo : olds.length = sLen * i.size)
    (holds : sLen = 0 ∨ ∃ b o, base = some ⟨b, o, none⟩ ∧ ∀ j u, olds[j]? = some u → cl w b (o + j) = some u)
    (xa : Option Addr) (m c : Nat) (news : List Value) (hl : news.length = m * i.size)
    (hnews : m = 0 ∨ ∃ b o, xa = some ⟨b, o, none⟩ ∧ ∀ j u, news[j]? = some u → cl w b (o + j) = some u)
    (hg : sCap < sLen + m) (h63 : ((sLen + m : Nat) : Int) ≤ 9223372036854775807) (hfit : (sLen + m) * i.bytes ≤ 140737488355328) :
    (Builtin.append_ #[t, t2] ty #[.slice base sLen sCap, .slice xa m c]).run P w =
      .ok (.slice (some ⟨w.heap.size, 0, none⟩) (sLen + m) (grownCap w (sLen + m) sCap e)) (w.drew.alloc (.cells (olds.toArray ++ news.toArray ++ Builtin.zeroCells z.cells (grownCap w (sLen + m) sCap e - (sLen + m))) e)) := by
  have hn : ¬ (sLen + m ≤ sCap) := by omega
  have h63' : ¬ (9223372036854775807 < ((sLen : Int) + (m : Int))) := by omega
  have h48 := growslice_fits hg hfit
  have h48' : ¬ (281474976710656 < Builtin.nextslicecap (sLen + m) sCap * i.bytes) := by omega
  have hf : (Builtin.firstCells i.size m (.slice xa m c)).run P w.drew = .ok news.toArray w.drew := by
    rcases hnews with h0 | ⟨b, o, rfl, h⟩
    · subst h0
      have : news = [] := List.eq_nil_of_length_eq_zero (by simpa using hl)
      subst this
      cases xa <;> simp [Builtin.firstCells, loadCells, loadCellsFrom]
    · exact run_firstCells_some w.drew i.size m _ m c news hl (fun j v hj => by rw [add_lit]; exact h j v hj)
  have hfo : (Builtin.firstCells i.size sLen (.slice base sLen sCap)).run P w.drew = .ok olds.toArray w.drew := by
    rcases holds with h0 | ⟨b, o, rfl, h⟩
    · subst h0
      have : olds = [] := List.eq_nil_of_length_eq_zero (by simpa using hlo)
      subst this
      cases base <;> simp [Builtin.firstCells, loadCells, loadCellsFrom]
    · exact run_firstCells_some w.drew i.size sLen _ sLen sCap olds hlo (fun j v hj => by rw [add_lit]; exact h j v hj)
  simp [Builtin.append_, run_underlying ht, run_underlying ht2, sizeOf, typeInfo, zeroValue, hi, hz, Builtin.lenOf, hn, h63', h48', Question.forced, hf, hfo, newRow, grownCap]
  rw [← Array.append_assoc]
  simp

theorem setCells_heap (b : Nat) : ∀ (vs : List Value) (o : Nat) (w : World) (k : Nat), k ≠ b → (w.setCells b o vs).heap[k]? = w.heap[k]?
  | [], _, _, _, _ => rfl
  | v :: r, o, w, k, h => by
    rw [World.setCells, setCells_heap b r (o + 1) _ k h]
    exact Go.RowKit.Below.heap_setCell _ _ _ _ h
theorem setCells_misc (b : Nat) : ∀ (vs : List Value) (o : Nat) (w : World), (w.setCells b o vs).os = w.os ∧ (w.setCells b o vs).tape = w.tape ∧ (w.setCells b o vs).output = w.output ∧ (w.setCells b o vs).heap.size = w.heap.size
  | [], _, _ => ⟨rfl, rfl, rfl, rfl⟩
  | v :: r, o, w => by
    rw [World.setCells]
    obtain ⟨h1, h2, h3, h4⟩ := setCells_misc b r (o + 1) (w.setCell ⟨b, o, none⟩ v)
    exact ⟨h1, h2, h3, by rw [h4]; simp⟩

/-- What a place owns from `lo` to `hi` in a block is filled and shared; the rest of what `s` owns is `d`'s. -/
def Gh.share (G : Gh) (s d : Owner) (b lo hi : Nat) : Gh := ⟨fun b' i => if b' = b ∧ lo ≤ i ∧ i < hi then none else (G.own b' i).map (relab s d), G.hdr⟩

section share
variable {G : Gh} {w : World} {s d : Nat} {b lo : Nat} {news : List Value}
structure Shr (G : Gh) (w : World) (s b lo : Nat) (news : List Value) : Prop where
  own : ∀ j, j < news.length → G.own b (lo + j) = some (.tmp s, []) ∧ (∃ v, cl w b (lo + j) = some v)
theorem Shr.out (h : Shr G w s b lo news) {b' i : Nat} (ho : G.own b' i ≠ some (.tmp s, [])) : ¬ (b' = b ∧ lo ≤ i ∧ i < lo + news.length) := by
  rintro ⟨rfl, h1, h2⟩
  obtain ⟨m, rfl⟩ : ∃ m, i = lo + m := ⟨i - lo, by omega⟩
  exact ho (h.own m (by omega)).1
theorem Shr.cl_out (b' i : Nat) (h : ¬ (b' = b ∧ lo ≤ i ∧ i < lo + news.length)) : cl (w.setCells b lo news) b' i = cl w b' i :=
  World.cell?_setCells_out b news lo w ⟨b', i, none⟩ (fun h1 _ => by
    rcases Nat.lt_or_ge i lo with hi | hi
    · exact .inl hi
    · exact .inr (Nat.le_of_not_lt fun h2 => h ⟨h1, hi, h2⟩))
theorem Shr.fz (b' i : Nat) : fz (w.setCells b lo news) b' i = fz w b' i := World.frozen?_setCells b news lo w ⟨b', i, none⟩
theorem Shr.sh (h : Shr G w s b lo news) (d : Owner) : Sh G w (G.share (.tmp s, []) d b lo (lo + news.length)) (w.setCells b lo news) := fun b' i v h1 h2 => by
  have ho := h.out (b' := b') (i := i) (by rw [h1]; simp)
  exact ⟨by simp only [Gh.share]; rw [if_neg ho, h1]; rfl, by rw [Shr.cl_out _ _ ho]; exact h2⟩
theorem Shr.ow (h : Shr G w s b lo news) {d ω : Owner} (h1 : ω.1 ≠ .tmp s) (h2 : ω.1 ≠ d.1) : Ow G w ω (G.share (.tmp s, []) d b lo (lo + news.length)) (w.setCells b lo news) ω never := fun b' i π v _ k1 k2 => by
  have ho := h.out (b' := b') (i := i) (by rw [k1]; intro e; injection e with e; exact h1 (congrArg Prod.fst e))
  refine ⟨?_, by rw [Shr.cl_out _ _ ho]; exact k2, fun hf => by rw [Shr.fz]; exact hf⟩
  simp only [Gh.share]
  rw [if_neg ho, k1]
  simp [relab, h1, h2]
theorem Shr.keep (h : Shr G w s b lo news) (d : Nat) (hp : 0 < news.length) (S : Nat → Prop) : Keep S G w (G.share (.tmp s, []) (.tmp d, []) b lo (lo + news.length)) (w.setCells b lo news) where
  os := (setCells_misc b news lo w).1
  tape := (setCells_misc b news lo w).2.1
  output := (setCells_misc b news lo w).2.2.1
  size := by rw [(setCells_misc b news lo w).2.2.2]; exact Nat.le_refl _
  cell := fun b' i v h1 h2 => by
    have ho := h.out (b' := b') (i := i) (by rcases h1 with h1 | ⟨π, h1⟩ <;> (rw [h1]; simp))
    refine ⟨?_, by rw [Shr.cl_out _ _ ho]; exact h2, Shr.fz _ _⟩
    simp only [Gh.share]
    rw [if_neg ho]
    rcases h1 with h1 | ⟨π, h1⟩ <;> simp [h1, relab]
  block := fun b' hb' hn => by
    refine setCells_heap b news lo w b' ?_
    rintro rfl
    obtain ⟨k1, v, k2⟩ := h.own 0 hp
    rcases hn _ _ k2 with h1 | ⟨π, h1⟩ <;> (rw [k1] at h1; simp at h1)
  hdr := fun _ _ _ h => h
end share

section ops
variable {d : Nat} {T pos aft} {x y z : Operand}
theorem RelSt.drew {G w a st} (h : RelSt G w a st) : RelSt G w.drew a st :=
  ⟨h.defers, h.size, fun t => RelT.mono (G := G) (w := w) (w' := w.drew) (fun _ _ _ h1 h2 => ⟨h1, h2⟩) (fun _ _ _ _ _ h1 h2 => ⟨h1, h2, id⟩) (fun _ _ _ h => h) (h.tmps t),
    objs_frame (G := G) (w := w) (w' := w.drew) h.objs (fun _ _ _ h1 h2 => ⟨h1, h2⟩) (fun _ => rfl) (fun _ _ _ _ _ _ h1 h2 => ⟨h1, h2, id⟩) (fun _ _ _ _ _ _ => ⟨rfl, fun _ h => h⟩)⟩
theorem Keep.drew (S : Nat → Prop) (G : Gh) (w : World) : Keep S G w G w.drew := ⟨rfl, rfl, rfl, Nat.le_refl _, fun _ _ _ _ h => ⟨rfl, h, rfl⟩, fun _ _ _ => rfl, fun _ _ _ h => h⟩

theorem op_app {s : Nat} {α : Type} [Enc α] [Plain α] {t t2 E E2 : TypeId} {bytes : Nat} {z0 : α} {av av2 : AV} {xs ys : List α} [hgr : Grow α av xs] [hsr : Src α av2 ys] (sl : SlOk P t E bytes α) (hz : ZeroOk P E z0) (ht2 : P.underlying t2 = some (.slice E2))
    (hx : st.tm s = some av) (hy : st.ev y = some av2) (hne : Nat.beq s d = false) (hb : (xs.length + ys.length) * bytes ≤ 140737488355328) (h63 : xs.length + ys.length ≤ 4611686018427387904) (hn : Nat.blt d st.n = true) (hs : Nat.blt s st.n = true) :
    OpOk P S ops ⟨some d, .call { callee := .builtin .append, args := #[.tmp s, y], argTypes := #[t, t2] }, T, pos, aft, none⟩ (s :: opT y) [] [(d, some (.v (OList.mk (xs ++ ys) true))), (s, some av.dis)] [] st := by
  intro st1 hag G w a hr K Q hK
  unfold stepO
  rw [if_pos (by simp [Region.wanted])]
  refine .inl ?_
  have hsd : s ≠ d := by intro e; subst e; simp at hne
  have hd' : d < st1.n := by rw [hag.n]; simpa using hn
  have hv := hr.tmps s
  rw [hag.tm s (by simp), hx] at hv
  obtain ⟨base, cap, u1, u2, u3, u4⟩ := hgr.rel (show RelV G w (.tmp s, []) av _ from hv)
  obtain ⟨xa, c, v1, v2, v3⟩ := hsr.rel (hr.at hag hy fun t ht => by simp [ht])
  obtain ⟨hu, i, hi, hby, hsz⟩ := sl.spec
  obtain ⟨i', zcs, k1, k2, k3⟩ := hz.ok
  rw [hi] at k1
  injection k1 with k1
  subst k1
  obtain ⟨news, n1, n2, n3, n4⟩ := v3.cells
  obtain ⟨olds, o1, o2, o3, o4⟩ := u3.cells
  have hsp := Enc.size_pos (α := α)
  have hexec : ∀ (u : Value) (w' : World), (Builtin.append_ #[t, t2] T #[.slice base xs.length cap, .slice xa ys.length c]).run P w = .ok u w' →
      (execOp a.eval ⟨some d, .call { callee := .builtin .append, args := #[.tmp s, y], argTypes := #[t, t2] }, T, pos, aft, none⟩).run P w = .ok (.value u) w' := by
    intro u w' h
    have e1 : a.eval (.tmp s) = .slice base xs.length cap := u1
    simp only [execOp, resolve, invoke, builtin, List.map_toArray, List.map_cons, List.map_nil, Sem.run_bind, Sem.run_pure, Result.andThen_ok, e1, v1, h]
  unfold Oper.wp
  have hys : ys.length = 0 ∨ ∃ b o, xa = some ⟨b, o, none⟩ ∧ ∀ j u, news[j]? = some u → cl w b (o + j) = some u := by
    rcases n4 with h | h
    · left; rw [h]; rfl
    · right; exact h
  by_cases hroom : xs.length + ys.length ≤ cap
  · -- in place
    have hdst : news = [] ∨ ∃ b o, base = some ⟨b, o, none⟩ ∧ ∀ j, j < news.length → (cl w b (o + xs.length * i.size + j)).isSome = true ∧ fz w b (o + xs.length * i.size + j) = false ∧ G.own b (o + xs.length * i.size + j) = some (.tmp s, []) := by
      by_cases hy0 : ys.length = 0
      · left; exact List.eq_nil_of_length_eq_zero (by rw [n1, hy0, Nat.zero_mul])
      · right
        rcases u4 with h | ⟨b, o, h1, h2⟩
        · exfalso
          have : (xs.length + 1) * Enc.size α ≤ cap * Enc.size α := Nat.mul_le_mul_right _ (by omega)
          rw [Nat.add_mul, Nat.one_mul] at this
          omega
        · refine ⟨b, o, h1, fun j hj => ?_⟩
          have hlt : xs.length * Enc.size α + j < cap * Enc.size α := by
            have : (xs.length + ys.length) * Enc.size α ≤ cap * Enc.size α := Nat.mul_le_mul_right _ hroom
            rw [Nat.add_mul] at this
            omega
          obtain ⟨q1, ⟨v, q2⟩, q3⟩ := h2 (xs.length * Enc.size α + j) (by omega) hlt
          rw [hsz, Nat.add_assoc]
          exact ⟨by rw [q2]; rfl, q3, q1⟩
    have hrun := run_app_room (P := P) w t t2 T E E2 i hu ht2 hi base xs.length cap xa ys.length c news (by rw [n1, hsz]) hys n3 hroom
      (hdst.imp id fun ⟨b, o, h1, h2⟩ => ⟨b, o, h1, fun j hj => ⟨(h2 j hj).1, (h2 j hj).2.1⟩⟩)
    rw [hexec _ _ hrun]
    simp only [Oper.upon]
    rcases hdst with h0 | ⟨b, o, rfl, h2⟩
    · subst h0
      have hy0 : ys = [] := by
        refine List.eq_nil_of_length_eq_zero ?_
        rcases Nat.mul_eq_zero.1 (show ys.length * Enc.size α = 0 by rw [← n1]; rfl) with h | h
        · exact h
        · omega
      subst hy0
      have hw : putAt w base (xs.length * i.size) [] = w := by cases base <;> rfl
      rw [hw]
      refine hK _ w (G.mv (.tmp s, []) (.tmp d, [])) ⟨hr.defers, ?_, fun q => ?_, ?_⟩ (Keep.mv S (by simp) (by simp))
      · show (a.tmps.setIfInBounds d _).size = _; simp [hr.size]
      · show RelT _ _ _ (orr (lk [(d, _), (s, some av.dis)] q) (st1.tm q)) ((a.tmps.setIfInBounds d _).getD q undef)
        rw [getD_set _ _ _ _ (by rw [hr.size]; exact hd')]
        simp only [lk]
        by_cases e : q = d
        · subst e
          simp only [if_true, orr]
          have : RelV G w (.tmp s, []) (.v (OList.mk xs true)) (.slice base xs.length cap) := ⟨_, ⟨base, cap, rfl, u2, u3, fun _ => u4⟩, rfl⟩
          simpa [RelT] using RelV.mono Sh.mv Ow.mv_src (fun _ _ _ h => h) this
        · rw [if_neg e, if_neg e]
          by_cases e2 : q = s
          · subst e2
            simp only [if_true, orr]
            exact RelV.mono_dis Sh.mv (fun _ _ _ h => h) hv
          · rw [if_neg e2]
            simp only [orr]
            exact (hr.tmps q).mono Sh.mv (Ow.mv_other (by simpa using e2) (by simpa using e)) (fun _ _ _ h => h)
      · exact objs_frame hr.objs Sh.mv (fun _ => rfl) (fun _ => Ow.mv_other (by simp) (by simp)) (fun b o cs e _ _ => ⟨rfl, fun i h => by simp [Gh.mv, h, relab]⟩)
    · by_cases hp : news.length = 0
      · -- nothing to add
        have hn0 : news = [] := List.eq_nil_of_length_eq_zero hp
        subst hn0
        have hy0 : ys = [] := by
          refine List.eq_nil_of_length_eq_zero ?_
          rcases Nat.mul_eq_zero.1 (show ys.length * Enc.size α = 0 by rw [← n1]; rfl) with h | h
          · exact h
          · omega
        subst hy0
        refine hK _ w (G.mv (.tmp s, []) (.tmp d, [])) ⟨hr.defers, ?_, fun q => ?_, ?_⟩ (Keep.mv S (by simp) (by simp))
        · show (a.tmps.setIfInBounds d _).size = _; simp [hr.size]
        · show RelT _ _ _ (orr (lk [(d, _), (s, some av.dis)] q) (st1.tm q)) ((a.tmps.setIfInBounds d _).getD q undef)
          rw [getD_set _ _ _ _ (by rw [hr.size]; exact hd')]
          simp only [lk]
          by_cases e : q = d
          · subst e
            simp only [if_true, orr]
            have : RelV G w (.tmp s, []) (.v (OList.mk xs true)) (.slice (some ⟨b, o, none⟩) xs.length cap) := ⟨_, ⟨_, cap, rfl, u2, u3, fun _ => u4⟩, rfl⟩
            simpa [RelT] using RelV.mono Sh.mv Ow.mv_src (fun _ _ _ h => h) this
          · rw [if_neg e, if_neg e]
            by_cases e2 : q = s
            · subst e2
              simp only [if_true, orr]
              exact RelV.mono_dis Sh.mv (fun _ _ _ h => h) hv
            · rw [if_neg e2]
              simp only [orr]
              exact (hr.tmps q).mono Sh.mv (Ow.mv_other (by simpa using e2) (by simpa using e)) (fun _ _ _ h => h)
        · exact objs_frame hr.objs Sh.mv (fun _ => rfl) (fun _ => Ow.mv_other (by simp) (by simp)) (fun b o cs e _ _ => ⟨rfl, fun i h => by simp [Gh.mv, h, relab]⟩)
      · have hshr : Shr G w s b (o + xs.length * i.size) news := ⟨fun j hj => ⟨(h2 j hj).2.2, Option.isSome_iff_exists.1 (h2 j hj).1⟩⟩
        have hsh := hshr.sh (.tmp d, [])
        refine hK _ _ (G.share (.tmp s, []) (.tmp d, []) b (o + xs.length * i.size) (o + xs.length * i.size + news.length)) ⟨hr.defers, ?_, fun q => ?_, ?_⟩ (hshr.keep d (by omega) S)
        · show (a.tmps.setIfInBounds d _).size = _; simp [hr.size]
        · show RelT _ _ _ (orr (lk [(d, _), (s, some av.dis)] q) (st1.tm q)) ((a.tmps.setIfInBounds d _).getD q undef)
          rw [getD_set _ _ _ _ (by rw [hr.size]; exact hd')]
          simp only [lk]
          by_cases e : q = d
          · subst e
            simp only [if_true, orr]
            refine ⟨_, ⟨some ⟨b, o, none⟩, cap, rfl, by simpa using hroom, .inr ⟨b, o, rfl, by simpa using h63, fun k x hk => ?_⟩, fun _ => .inr ⟨b, o, rfl, fun j j1 j2 => ?_⟩⟩, by simp [Enc.val, Enc.agg]⟩
            · by_cases hkx : k < xs.length
              · rw [List.getElem?_append_left hkx] at hk
                rcases u3 with hu0 | ⟨b', o', hu1, _, hu2⟩
                · subst hu0; simp at hkx
                · simp at hu1
                  obtain ⟨rfl, rfl⟩ := hu1
                  obtain ⟨ce, m1, m2⟩ := hu2 k x hk
                  exact ⟨ce, Plain.mono hsh m1, fun j v hj => hsh _ _ _ (m2 j v hj).1 (m2 j v hj).2⟩
              · rw [List.getElem?_append_right (by omega)] at hk
                obtain ⟨ce, m1, m2⟩ := n2.2 _ x hk
                refine ⟨ce, Plain.mono hsh m1, fun j v hj => ?_⟩
                have hjl : j < Enc.size α := by rw [← Enc.len m1]; exact getElem?_lt hj
                have hlt := lt_mul_of (getElem?_lt hk) hjl
                have e2 : o + k * Enc.size α + j = (o + xs.length * i.size) + ((k - xs.length) * Enc.size α + j) := by
                  rw [hsz]
                  have : k * Enc.size α = xs.length * Enc.size α + (k - xs.length) * Enc.size α := by rw [← Nat.add_mul]; congr 1; omega
                  omega
                rw [e2]
                refine ⟨by simp only [Gh.share]; rw [if_pos ⟨trivial, by omega, by rw [n1]; omega⟩], ?_⟩
                have := World.cell?_setCells_in b news (o + xs.length * i.size) w (fun j hj => (h2 j hj).1) ((k - xs.length) * Enc.size α + j) (by rw [n1]; exact hlt)
                have h3 := m2 j v hj
                show (w.setCells b (o + xs.length * i.size) news).cell? _ = _
                rw [this, ← h3, List.getElem?_eq_getElem]
            · simp only [List.length_append] at j1
              rcases u4 with hu0 | ⟨b', o', hu1, hu2⟩
              · rw [Nat.add_mul] at j1; omega
              · simp at hu1
                obtain ⟨rfl, rfl⟩ := hu1
                obtain ⟨q1, ⟨v, q2⟩, q3⟩ := hu2 j (by rw [Nat.add_mul] at j1; omega) j2
                have hno : ¬ (b = b ∧ o + xs.length * i.size ≤ o + j ∧ o + j < o + xs.length * i.size + news.length) := by
                  rw [n1, hsz]; rw [Nat.add_mul] at j1; omega
                refine ⟨?_, ⟨v, (Shr.cl_out _ _ hno).trans q2⟩, (Shr.fz _ _).trans q3⟩
                simp only [Gh.share]
                rw [if_neg (fun h => hno ⟨rfl, h.2⟩), q1]
                simp [relab]
          · rw [if_neg e, if_neg e]
            by_cases e2 : q = s
            · subst e2
              simp only [if_true, orr]
              exact RelV.mono_dis hsh (fun _ _ _ h => h) hv
            · rw [if_neg e2]
              simp only [orr]
              exact (hr.tmps q).mono hsh (hshr.ow (by simpa using e2) (by simpa using e)) (fun _ _ _ h => h)
        · refine objs_frame hr.objs hsh (fun _ => rfl) (fun _ => hshr.ow (by simp) (by simp)) (fun b' o' cs e hbk hown => ?_)
          have hne' : b' ≠ b := by
            rintro rfl
            obtain ⟨q1, v, q2⟩ := hshr.own 0 (by omega)
            have : o + xs.length * i.size + 0 < cs.size := by
              rcases Nat.lt_or_ge (o + xs.length * i.size + 0) cs.size with h | h
              · exact h
              · simp [World.cell?, hbk] at q2
                rw [Array.getElem?_eq_none (by simpa using h)] at q2
                cases q2
            rw [hown _ this] at q1
            simp at q1
          refine ⟨setCells_heap b news _ w b' hne', fun k hk => ?_⟩
          simp only [Gh.share]
          rw [if_neg (fun h => hne' h.1), hk]
          simp [relab]
  · -- a new row
    have hrun := run_app_grow (P := P) w t t2 T E E2 i _ hu ht2 hi k2 base xs.length cap olds (by rw [o1, hsz]) (by
      rcases o4 with h | h
      · left; rw [h]; rfl
      · right; exact h) xa ys.length c news (by rw [n1, hsz]) hys (by omega) (by omega) (by rw [hby]; exact hb)
    rw [hexec _ _ hrun]
    simp only [Oper.upon]
    have hge := grownCap_ge w (xs.length + ys.length) cap E
    have hrows : Rows G w.drew (xs ++ ys) (olds ++ news ++ (Builtin.zeroCells (Enc.val α zcs).cells (grownCap w (xs.length + ys.length) cap E - (xs.length + ys.length))).toList) := by
      have hm : ∀ {l : List α} {cs : List Value}, Rows G w l cs → Rows G w.drew l cs := fun h => ⟨h.1, fun i x hx => by
        obtain ⟨c, c1, c2⟩ := h.2 i x hx
        exact ⟨c, Plain.mono (G := G) (w := w) (w' := w.drew) (fun _ _ _ h1 h2 => ⟨h1, h2⟩) c1, c2⟩⟩
      exact (hm o2).append (hm n2) o1 n1
    have hrd := hr.drew
    obtain ⟨G', q1, q2, q3⟩ := hrd.newrow (d := d) (e := E) (cap := grownCap w (xs.length + ys.length) cap E) hrows (by simpa using hge) (by
      have hvz : (Enc.val α zcs).cells.size = Enc.size α := Enc.val_size (k3 G w ω0)
      simp only [List.length_append, o1, n1, Array.length_toList, size_zeroCells, hvz, ← Nat.add_mul]
      refine Nat.mul_le_mul_right _ ?_
      omega) (by simpa using h63)
    have harr : (olds ++ news ++ (Builtin.zeroCells (Enc.val α zcs).cells (grownCap w (xs.length + ys.length) cap E - (xs.length + ys.length))).toList).toArray = olds.toArray ++ news.toArray ++ Builtin.zeroCells (Enc.val α zcs).cells (grownCap w (xs.length + ys.length) cap E - (xs.length + ys.length)) := by simp
    rw [harr] at q1 q2 q3
    rw [List.length_append] at q3
    have hput := q1.put (av := some (AV.v (OList.mk (xs ++ ys) true))) hd' q3
    refine hK _ _ G' ⟨hput.defers, hput.size, fun q => ?_, hput.objs⟩ ((Keep.drew S G w).trans (q2 S))
    have hq := hput.tmps q
    show RelT _ _ _ (orr (lk [(d, _), (s, some av.dis)] q) (st1.tm q)) _
    have hq' : RelT G' (w.drew.alloc _) (.tmp q, []) (orr (lk [(d, some (AV.v (OList.mk (xs ++ ys) true)))] q) (st1.tm q)) ((a.tmps.setIfInBounds d _).getD q undef) := hq
    simp only [lk] at hq' ⊢
    by_cases e : q = d
    · subst e
      simp only [if_true, orr] at hq' ⊢
      exact hq'
    · rw [if_neg e] at hq' ⊢
      by_cases e2 : q = s
      · subst e2
        simp only [if_true, orr] at hq' ⊢
        rw [hag.tm q (by simp), hx] at hq'
        exact RelV.mono_dis (ω' := (.tmp q, [])) (Sh.refl G' _) (fun _ _ _ h => h) (show RelV _ _ _ av _ from hq')
      · rw [if_neg e2]
        exact hq'
end ops

end Go.Wt

/- Functions: what a call is known to do; how it is shown; how it is used. -/
set_option linter.unusedVariables false
set_option linter.unusedSimpArgs false
namespace Go.Wt
open Go

variable {P : Program} {S : Nat → Prop} {ops : Array Oper} {st : St}

def RelAs (G : Gh) (w : World) : Nat → List AV → List Value → Prop
  | _, [], us => us = []
  | k, x :: xs, us => ∃ u r, us = u :: r ∧ RelV G w (.tmp k, []) x u ∧ RelAs G w (k + 1) xs r

/-- A call of `f` with these arguments, these objects at hand, returns, and then `R`. -/
def Ct (P : Program) (f : FuncId) (args : List AV) (h : Nat → Obj) (R : AV → (Nat → Obj) → Prop) : Prop :=
  ∀ G w vs, RelAs G w 0 args vs → (∀ o, RelO G w o (h o)) →
    Calls P f vs.toArray w fun e w' => ∃ r h' v G', e = .returned v ∧ R r h' ∧ RelV G' w' (.ret, []) r v ∧ (∀ o, RelO G' w' o (h' o)) ∧ Keep (fun o => h o ≠ .free) G w G' w'
def noObj : Nat → Obj := fun _ => .free
/-- The everyday case: no objects; the result alone. -/
def CtP (P : Program) (f : FuncId) (args : List AV) (r : AV) : Prop := Ct P f args noObj fun r1 h1 => r1 = r ∧ h1 = noObj

theorem Ct.mono {f args h R R'} (k : Ct P f args h R) (hr : ∀ r h', R r h' → R' r h') : Ct P f args h R' := fun G w vs h1 h2 =>
  (k G w vs h1 h2).mono fun e w' ⟨r, h', v, G', e1, e2, e3⟩ => ⟨r, h', v, G', e1, hr _ _ e2, e3⟩

/-! ### How it is shown -/
/-- The results, at a return. -/
def ResOk (P : Program) (S : Nat → Prop) (rs : Array ResultVar) (r : AV) (h' : Nat → Obj) (st : St) : Prop :=
  ∀ fn : Func, fn.results = rs → ∀ G w a, RelSt G w a st → ∃ G' v, (results fn a.tmps).run P w = .ok v w ∧ RelV G' w (.ret, []) r v ∧ (∀ o, RelO G' w o (h' o)) ∧ Keep S G w G' w
def fin (P : Program) (S : Nat → Prop) (rs : Array ResultVar) (R : AV → (Nat → Obj) → Prop) : Exit → St → Prop
  | .normal, s => ∃ r h', ResOk P S rs r h' s ∧ R r h'
  | .ret, s => ∃ r h', ResOk P S rs r h' s ∧ R r h'
  | _, _ => False
def st0 (n : Nat) (args : List AV) (h : Nat → Obj) : St := ⟨n, fun t => args[t]?, h⟩

theorem RelAs.get {G w} : ∀ {k : Nat} {args : List AV} {vs : List Value}, RelAs G w k args vs → vs.length = args.length ∧ ∀ (t : Nat) (x : AV), args[t]? = some x → ∃ u, vs[t]? = some u ∧ RelV G w (.tmp (k + t), []) x u
  | _, [], _, h => ⟨by rw [show _ = [] from h]; rfl, fun t x h => by simp at h⟩
  | k, x :: xs, _, ⟨u, r, h1, h2, h3⟩ => by
    obtain ⟨k1, k2⟩ := RelAs.get h3
    subst h1
    refine ⟨by simp [k1], fun t y hy => ?_⟩
    cases t with
    | zero => simp at hy; subst hy; exact ⟨u, rfl, h2⟩
    | succ t =>
      obtain ⟨v, v1, v2⟩ := k2 t y (by simpa using hy)
      exact ⟨v, by simpa using v1, by rw [show k + (t + 1) = k + 1 + t by omega]; exact v2⟩

theorem Ct.intro {f : FuncId} {fn : Func} {c : Code} {args : List AV} {h : Nat → Obj} {R : AV → (Nat → Obj) → Prop} (hf : P.funcs[f]? = some fn) (hb : fn.body = some c) (hn : Nat.ble args.length fn.ntmps = true)
    (hw : awp P (fun o => h o ≠ .free) c (fin P (fun o => h o ≠ .free) fn.results R) (st0 fn.ntmps args h)) : Ct P f args h R := fun G w vs h1 h2 => by
  obtain ⟨k1, k2⟩ := h1.get
  have hle : vs.length ≤ fn.ntmps := by rw [k1]; simpa using hn
  refine calls_of_wp hf hb (wp_mono (hw G w _ ⟨rfl, ?_, fun t => ?_, h2⟩) ?_)
  · show (vs.toArray ++ Array.replicate (fn.ntmps - vs.toArray.size) undef).size = fn.ntmps
    simp; omega
  · show RelT G w _ (args[t]?) _
    cases ht : args[t]? with
    | none => trivial
    | some x =>
      obtain ⟨u, u1, u2⟩ := k2 t x ht
      have hlt : t < vs.length := getElem?_lt u1
      have e : (vs.toArray ++ Array.replicate (fn.ntmps - vs.toArray.size) undef).getD t undef = u := by
        simp only [Array.getD_eq_getD_getElem?]
        rw [Array.getElem?_append_left (by simpa using hlt)]
        simp [u1]
      rw [e]
      simpa [RelT] using u2
  · rintro e a' w' ⟨st', G', g1, g2, g3⟩
    have key : ∀ (hq : ∃ r h', ResOk P (fun o => h o ≠ .free) fn.results r h' st' ∧ R r h'), a'.defers = [] ∧ ∃ v, (results fn a'.tmps).run P w' = .ok v w' ∧ ∃ r h' v' G', Ending.returned v = .returned v' ∧ R r h' ∧ RelV G' w' (.ret, []) r v' ∧ (∀ o, RelO G' w' o (h' o)) ∧ Keep (fun o => h o ≠ .free) G w G' w' := by
      rintro ⟨r, h', q1, q2⟩
      obtain ⟨G2, v, m1, m2, m3, m4⟩ := q1 fn rfl G' w' a' g1
      exact ⟨g1.defers, v, m1, r, h', v, G2, rfl, q2, m2, m3, g2.trans m4⟩
    cases e with
    | normal => exact key g3
    | ret => exact key g3
    | exit id => exact g3.elim
    | goto l => exact g3.elim
    | panic ch => exact g3.elim
    | outgrown => exact g3.elim

/-! ### Forgetting -/
def Gh.fg (G : Gh) (p : Nat → Bool) : Gh := ⟨G.own, fun o => if p o then G.hdr o else none⟩
theorem Sh.fg {G w} (p : Nat → Bool) : Sh G w (G.fg p) w := fun _ _ _ h1 h2 => ⟨h1, h2⟩
theorem Ow.fg {G w} (p : Nat → Bool) (ω no) : Ow G w ω (G.fg p) w ω no := fun _ _ _ _ _ h1 h2 => ⟨h1, h2, id⟩
theorem Hm.fg {G : Gh} {p : Nat → Bool} {T : List Nat} (h : ∀ o ∈ T, p o = true) : Hm T G (G.fg p) := fun o ho v hv => by simp [Gh.fg, h o ho, hv]
theorem Keep.fg {S : Nat → Prop} {G w} {p : Nat → Bool} (h : ∀ o, S o → p o = true) : Keep S G w (G.fg p) w :=
  ⟨rfl, rfl, rfl, Nat.le_refl _, fun _ _ _ _ h => ⟨rfl, h, rfl⟩, fun _ _ _ => rfl, fun o v hS hv => by simp [Gh.fg, h o hS, hv]⟩
/-- The objects that the state names are among `T`. -/
def obOk (p : Nat → Bool) (x : Obj) : Prop := match x with
  | @Obj.cell _ _ x => ∀ o ∈ Enc.refs x, p o = true
  | @Obj.arr _ _ xs => ∀ x ∈ xs, ∀ o ∈ Enc.refs x, p o = true
  | _ => True
theorem RelO.fg {G w o x} {p : Nat → Bool} (hp : p o = true) (hr : obOk p x) (h : RelO G w o x) : RelO (G.fg p) w o x := by
  cases x with
  | free => simp [RelO, Gh.fg, hp]; exact h
  | dead => trivial
  | cell x =>
    obtain ⟨b, cs, e, h1, h2, h3, h4⟩ := h
    exact ⟨b, cs, e, by simp [Gh.fg, hp, h1], h2, Enc.mono (Sh.fg p) (Ow.fg p _ _) (Hm.fg hr) h3, h4⟩
  | arr xs =>
    obtain ⟨b, cap, cs, e, h1, h2, h3, h4, h5, h6⟩ := h
    refine ⟨b, cap, cs, e, by simp [Gh.fg, hp, h1], h2, h3, h4, fun i x hx => ?_, h6⟩
    obtain ⟨c, c1, c2⟩ := h5 i x hx
    exact ⟨c, Enc.mono (Sh.fg p) (Ow.fg p _ _) (Hm.fg (hr x (List.mem_of_getElem? hx))) c1, c2⟩

/-- A state written out. -/
def lk0 {β : Type 1} : List (Nat × β) → Nat → Option β
  | [], _ => none
  | (k, x) :: r, t => if t = k then some x else lk0 r t
def mkSt (n : Nat) (tl : List (Nat × AV)) (ol : List (Nat × Obj)) : St := ⟨n, lk0 tl, fun o => orr (lk0 ol o) .free⟩
def keys {β : Type 1} (l : List (Nat × β)) : Nat → Bool := fun o => (lk0 l o).isSome
def TV (st : St) (p : Nat → Bool) (t : Nat) (av : AV) : Prop := (∃ av0, st.tm t = some av0 ∧ (av0 = av ∨ Conv av0 av)) ∧ ∀ o ∈ av.refs, p o = true
def TL (st : St) (p : Nat → Bool) : List (Nat × AV) → Prop
  | [] => True
  | (t, av) :: r => TV st p t av ∧ TL st p r
def OL (st : St) (p : Nat → Bool) : List (Nat × Obj) → Prop
  | [] => True
  | (o, x) :: r => (st.ob o = x ∧ obOk p x) ∧ OL st p r
theorem TL.get {st p} : ∀ {tl : List (Nat × AV)}, TL st p tl → ∀ t av, lk0 tl t = some av → TV st p t av
  | [], _, t, av, h => by simp [lk0] at h
  | (k, x) :: r, h, t, av, hk => by
    simp only [lk0] at hk
    by_cases e : t = k
    · rw [if_pos e] at hk; injection hk with hk; subst hk; subst e; exact h.1
    · rw [if_neg e] at hk; exact TL.get h.2 t av hk
theorem OL.get {st p} : ∀ {ol : List (Nat × Obj)}, OL st p ol → ∀ o x, lk0 ol o = some x → st.ob o = x ∧ obOk p x
  | [], _, t, av, h => by simp [lk0] at h
  | (k, x) :: r, h, t, av, hk => by
    simp only [lk0] at hk
    by_cases e : t = k
    · rw [if_pos e] at hk; injection hk with hk; subst hk; subst e; exact h.1
    · rw [if_neg e] at hk; exact OL.get h.2 t av hk
/-- Less is said: of temporaries and of objects. -/
theorem Le.mk {tl : List (Nat × AV)} {ol : List (Nat × Obj)} {n : Nat} (hn : st.n = n) (h1 : TL st (keys ol) tl) (h2 : OL st (keys ol) ol) (hS : ∀ o, S o → keys ol o = true) : Le S st (mkSt n tl ol) := fun G w a hr => by
  refine ⟨G.fg (keys ol), ⟨hr.defers, hr.size.trans hn, fun t => ?_, fun o => ?_⟩, Keep.fg hS⟩
  · show RelT _ _ _ (lk0 tl t) _
    cases ht : lk0 tl t with
    | none => trivial
    | some av =>
      obtain ⟨⟨av0, k1, k2⟩, k3⟩ := h1.get t av ht
      have := hr.tmps t
      rw [k1] at this
      rcases k2 with rfl | k2
      · exact RelV.mono (Sh.fg _) (Ow.fg _ _ _) (Hm.fg k3) this
      · exact RelV.mono (Sh.fg _) (Ow.fg _ _ _) (Hm.fg k3) (k2 (ω' := (.tmp t, [])) this)
  · show RelO _ _ o (orr (lk0 ol o) .free)
    cases ho : lk0 ol o with
    | none => simp [orr, RelO, Gh.fg, keys, ho]
    | some x =>
      obtain ⟨k1, k2⟩ := h2.get o x ho
      have := hr.objs o
      rw [k1] at this
      exact this.fg (by simp [keys, ho]) k2

/-! Results -/
theorem objs_fg {G w a} {ol : List (Nat × Obj)} (hrs : RelSt G w a st) (h2 : OL st (keys ol) ol) (o : Nat) : RelO (G.fg (keys ol)) w o (orr (lk0 ol o) .free) := by
  cases ho : lk0 ol o with
  | none => simp [orr, RelO, Gh.fg, keys, ho]
  | some x =>
    obtain ⟨k1, k2⟩ := h2.get o x ho
    have := hrs.objs o
    rw [k1] at this
    exact this.fg (by simp [keys, ho]) k2
def obs (ol : List (Nat × Obj)) : Nat → Obj := fun o => orr (lk0 ol o) .free
theorem obs_nil : obs [] = noObj := rfl
/-- One result variable. -/
def rvRun (tmps : Array Value) (x : ResultVar) : Sem Value :=
  match x with
  | .tmp t => pure (tmps.getD t undef)
  | .cell a t => do loadVar t (← asAddr (tmps.getD a undef))
theorem results_rv (fn : Func) (tmps : Array Value) : results fn tmps = (do let vs ← fn.results.mapM (rvRun tmps); pure (if h : vs.size = 1 then vs[0] else .tuple vs)) := rfl
inductive ROk (P : Program) (st : St) : ResultVar → FV → Prop
  | rt {t : Nat} {av : AV} {r : FV} (hx : st.tm t = some av) (hc : Conv av r.av) : ROk P st (.tmp t) r
  | rc {t o : Nat} {α γ : Type} [Enc α] [Enc γ] [Disl γ] {get : α → γ} {set : α → γ → α} {off : Nat} {pth : List Nat} {L : IsLens get set off pth} {c : α} {T : TypeId} (ty : TyOk P T γ) (hx : st.tm t = some (.box o L)) (ho : st.ob o = .cell c) : ROk P st (.cell t T) (.v (get c))
theorem ROk.run {rv r} (h : ROk P st rv r) {G w a} (hrs : RelSt G w a st) (ω : Owner) :
    ∃ u, (rvRun a.tmps rv).run P w = .ok u w ∧ RelF G w ω r u := by
  cases h with
  | @rt t av r hx hc =>
    have := hrs.tmps t
    rw [hx] at this
    refine ⟨_, rfl, ?_⟩
    have k := hc (ω' := ω) (show RelV G w _ av _ from this)
    cases r with
    | v x => exact k
    | box o L => exact k
  | @rc t o α γ _ _ _ get set off pth L c T ty hx ho =>
    have hv := hrs.tmps t
    rw [hx] at hv
    obtain ⟨b, h1, h3⟩ := hv
    have hob := hrs.objs o
    rw [ho] at hob
    obtain ⟨b', cs, e, k1, k2, k3, k4, k5⟩ := cell_load L ty hob
    have : b' = b := by rw [h1] at k1; simpa using k1.symm
    subst this
    have k6 : (loadVar T ⟨b', off, none⟩).run P w = .ok (Enc.val γ ((cs.drop off).take (Enc.size γ))) w := by
      simpa [Instr.loadAt, Instr.sureAddr] using k5
    have h3' : a.tmps.getD t undef = .pointer (some ⟨b', off, none⟩) := h3
    exact ⟨_, by simp only [rvRun, asAddr, h3', Sem.run_bind, Sem.run_pure, Result.andThen_ok, k6], _, Disl.mono (Sh.refl _ _) (Hm.refl _ _) (L.rd_get k3), rfl⟩
inductive RsOk (P : Program) (st : St) : List ResultVar → List FV → Prop
  | nil : RsOk P st [] []
  | cons {rv r rvs rs} (h : ROk P st rv r) (hs : RsOk P st rvs rs) : RsOk P st (rv :: rvs) (r :: rs)
theorem RsOk.run {G w a} (hrs : RelSt G w a st) (ω : Owner) : ∀ {k rvs rs}, RsOk P st rvs rs → ∃ us : List Value,
    (rvs.mapM (rvRun a.tmps)).run P w = .ok us w ∧ us.length = rs.length ∧ RelFs G w ω k rs us
  | k, _, _, .nil => ⟨[], rfl, rfl, rfl⟩
  | k, _, _, .cons h hs => by
    obtain ⟨u, u1, u2⟩ := h.run hrs (Owner.sub ω [k])
    obtain ⟨us, v1, v2, v3⟩ := RsOk.run hrs ω (k := k + 1) hs
    refine ⟨u :: us, ?_, by simp [v2], u, us, rfl, u2, v3⟩
    simp only [List.mapM_cons, Sem.run_bind, u1, Result.andThen_ok, v1, Sem.run_pure]
/-- One result. -/
theorem res1 {rv : ResultVar} {r : FV} {ol : List (Nat × Obj)} (h : ROk P st rv r) (hr : ∀ o ∈ r.refs, keys ol o = true) (h2 : OL st (keys ol) ol) (hS : ∀ o, S o → keys ol o = true) :
    ResOk P S #[rv] r.av (obs ol) st := fun fn hfn G w a hrs => by
  obtain ⟨u, u1, u2⟩ := h.run hrs (.ret, [])
  refine ⟨G.fg (keys ol), u, ?_, ?_, objs_fg hrs h2, Keep.fg hS⟩
  · simp only [results_rv, hfn, List.mapM_toArray, List.mapM_cons, List.mapM_nil, Sem.run_bind, Sem.run_map, Sem.run_pure, Result.andThen_ok, bind_pure_comp, map_pure, u1]
    simp
  · have := u2.mono (ω' := (.ret, [])) (Sh.fg (keys ol)) (Ow.fg _ _ _) (Hm.fg hr)
    cases r with
    | v x => exact this
    | box o L => exact this
/-- Several results. -/
theorem resN {rvs : List ResultVar} {rs : List FV} {ol : List (Nat × Obj)} (h : RsOk P st rvs rs) (hl : Nat.beq rs.length 1 = false) (hr : ∀ o ∈ rs.flatMap FV.refs, keys ol o = true) (h2 : OL st (keys ol) ol) (hS : ∀ o, S o → keys ol o = true) :
    ResOk P S rvs.toArray (.tup rs) (obs ol) st := fun fn hfn G w a hrs => by
  obtain ⟨us, u1, u2, u3⟩ := RsOk.run hrs (.ret, []) (k := 0) h
  refine ⟨G.fg (keys ol), .tuple us.toArray, ?_, ⟨us, rfl, u3.mono (Sh.fg _) (Ow.fg _ _ _) (Hm.fg hr)⟩, objs_fg hrs h2, Keep.fg hS⟩
  have hne : us.length ≠ 1 := by rw [u2]; intro e; rw [e] at hl; simp at hl
  simp only [results_rv, hfn, List.mapM_toArray, Sem.run_bind, Sem.run_map, Sem.run_pure, u1, Result.andThen_ok]
  rw [dif_neg (by simpa using hne)]
end Go.Wt

/- Calls; guarded operations; regions of open order. -/
set_option linter.unusedVariables false
set_option linter.unusedSimpArgs false
namespace Go.Wt
open Go

variable {P : Program} {S : Nat → Prop} {ops : Array Oper} {st : St}

/-! ### Calls -/
/-- `f` is a function with a body. -/
def fnB (P : Program) (f : FuncId) : Bool :=
  match P.funcs[f]? with
  | some fn => fn.body.isSome && !(fn.name == "runtime.NumGoroutine")
  | none => false
theorem callFunc_run {f : FuncId} (h : fnB P f = true) (args : Array Value) (w : World) : (callFunc f args).run P w = .ok (.enter f args) w := by
  unfold fnB at h
  split at h
  · rename_i fn hf
    simp only [Bool.and_eq_true, Bool.not_eq_true', beq_eq_false_iff_ne] at h
    have hb : fn.body.isNone = false := by cases hb : fn.body <;> simp_all
    have hb' : ¬ fn.body = none := by intro e; rw [e] at hb; cases hb
    simp [callFunc, program, Sem.run, hf, h.2, hb']
  · cases h

/-- The arguments at a call: what they hold; which temporaries are moved. -/
inductive Args (st : St) : Nat → List Operand → List AV → List Nat → Prop
  | nil (k : Nat) : Args st k [] [] []
  | cons {k : Nat} {x : Operand} {xs : List Operand} {av av' : AV} {avs : List AV} {rt : List Nat} (hx : st.ev x = some av) (hc : Conv av av') (h : Args st (k + 1) xs avs rt) : Args st k (x :: xs) (av' :: avs) (opT x ++ rt)
theorem Args.rel {G w a st1 rt0 ro} (hr : RelSt G w a st1) (hg : Agree rt0 ro st st1) : ∀ {k k' : Nat} {xs : List Operand} {avs : List AV} {rt : List Nat}, Args st k xs avs rt → (∀ t ∈ rt, t ∈ rt0) → RelAs G w k' avs (xs.map a.eval)
  | _, _, _, _, _, .nil _, _ => rfl
  | k, k', _, _, _, .cons hx hc h, hs => ⟨_, _, rfl, hc (hr.at hg hx fun t ht => hs _ (List.mem_append_left _ ht)), Args.rel hr hg h (fun t ht => hs _ (List.mem_append_right _ ht))⟩

theorem RelAs.mono {G w G' w'} (hs : Sh G w G' w') (ho : ∀ k, Ow G w (.tmp k, []) G' w' (.tmp k, []) never) : ∀ {k avs us}, Hm (avs.flatMap AV.refs) G G' → RelAs G w k avs us → RelAs G' w' k avs us
  | _, [], _, _, h => h
  | k, x :: xs, _, hm, ⟨u, r, h1, h2, h3⟩ => ⟨u, r, h1, h2.mono hs (ho k) (hm.sub fun o ho => by simp only [List.flatMap_cons, List.mem_append]; exact .inl ho),
      RelAs.mono hs ho (hm.sub fun o ho => by simp only [List.flatMap_cons, List.mem_append]; exact .inr ho) h3⟩

/-- What the callee sees: the objects of `p`; all else is another's. -/
def Gh.enter (G : Gh) (p : Nat → Bool) : Gh := ⟨fun b i => match G.own b i with
    | none => none
    | some (.obj o, π) => if p o then some (.obj o, π) else some (.ext, [])
    | some (.blk o, π) => if p o then some (.blk o, π) else some (.ext, [])
    | some (.arg k, π) => some (.tmp k, π)
    | some _ => some (.ext, []), fun o => if p o then G.hdr o else none⟩
open Classical in
/-- And behind the call. -/
noncomputable def Gh.leave (G : Gh) (w : World) (p : Nat → Bool) (G2 : Gh) (q : Nat → Bool) (d : Owner) : Gh := ⟨fun b i =>
    if (G.enter p).own b i = some (.ext, []) ∧ (∃ v, cl w b i = some v) then G.own b i else match G2.own b i with
    | none => none
    | some (.obj o, π) => if q o then some (.obj o, π) else some (.junk, [])
    | some (.blk o, π) => if q o then some (.blk o, π) else some (.junk, [])
    | some (.ret, π) => some (d.1, d.2 ++ π)
    | some _ => some (.junk, []), fun o => if q o then G2.hdr o else G.hdr o⟩

theorem enter_none {G : Gh} {p b i} : (G.enter p).own b i = none ↔ G.own b i = none := by
  simp only [Gh.enter]
  cases h : G.own b i with
  | none => simp
  | some o => obtain ⟨pl, π⟩ := o; cases pl <;> simp <;> split <;> simp
theorem enter_sh {G w p} : Sh G w (G.enter p) w := fun b i v h1 h2 => ⟨enter_none.2 h1, h2⟩

/-- Objects that the callee is handed. -/
def pass (p : Nat → Bool) (ob : Nat → Obj) : Nat → Obj := fun o => if p o then ob o else .free
/-- The objects behind a call: those of `q` as the callee leaves them. -/
def merge (q : Nat → Bool) (ob h' : Nat → Obj) : Nat → Obj := fun o => if q o then h' o else ob o

theorem RelO.enter {G w o x} {p : Nat → Bool} (hp : p o = true) (hr : obOk p x) (h : RelO G w o x) : RelO (G.enter p) w o x := by
  have how : Ow G w (.obj o, []) (G.enter p) w (.obj o, []) never := fun b i π v _ h1 h2 => ⟨by simp [Gh.enter, h1, hp], h2, id⟩
  have hhm : ∀ {T : List Nat}, (∀ o ∈ T, p o = true) → Hm T G (G.enter p) := fun hT o ho v hv => by simp [Gh.enter, hT o ho, hv]
  cases x with
  | free => simp [RelO, Gh.enter, hp]; exact h
  | dead => trivial
  | cell x =>
    obtain ⟨b, cs, e, h1, h2, h3, h4⟩ := h
    exact ⟨b, cs, e, by simp [Gh.enter, hp, h1], h2, Enc.mono enter_sh how (hhm hr) h3, fun i hi => by simp [Gh.enter, h4 i hi, hp]⟩
  | arr xs =>
    obtain ⟨b, cap, cs, e, h1, h2, h3, h4, h5, h6⟩ := h
    refine ⟨b, cap, cs, e, by simp [Gh.enter, hp, h1], h2, h3, h4, fun i x hx => ?_, fun i hi => by simp [Gh.enter, h6 i hi, hp]⟩
    obtain ⟨c, c1, c2⟩ := h5 i x hx
    exact ⟨c, Enc.mono enter_sh (how.sub [i] fun _ h => h) (hhm (hr x (List.mem_of_getElem? hx))) c1, c2⟩

theorem RelV.enter {G w ω av u} {p : Nat → Bool} (hd : av.dis = av) (hr : ∀ o ∈ av.refs, p o = true) {ω'} (h : RelV G w ω av u) : RelV (G.enter p) w ω' av u := by
  have := h.mono_dis (ω' := ω') (enter_sh (p := p)) (fun o ho v hv => by simp [Gh.enter, hr o ho, hv])
  rwa [hd] at this

/-- All that a call does to what the caller knows. -/
theorem leave_spec {G w a} {G2 : Gh} {w2 : World} {p q : Nat → Bool} {h' : Nat → Obj} {d : Nat} {r : AV} {u : Value}
    (hrs : RelSt G w a st) (hd : d < st.n) (hpq : ∀ o, p o = true → q o = true) (hq : ∀ o, q o = true → p o = false → st.ob o = .free)
    (hnq : ∀ o, q o = false → h' o = .free) (hrr : ∀ o ∈ r.refs, q o = true) (hrh : ∀ o, obOk q (h' o))
    (hv : RelV G2 w2 (.ret, []) r u) (ho : ∀ o, RelO G2 w2 o (h' o)) (hk : Keep (fun o => pass p st.ob o ≠ .free) (G.enter p) w G2 w2) :
    RelSt (G.leave w p G2 q (.tmp d, [])) w2 (a.put (some d) u) ⟨st.n, fun t => if t = d then some r else st.tm t, merge q st.ob h'⟩ ∧ ∀ S : Nat → Prop, Keep S G w (G.leave w p G2 q (.tmp d, [])) w2 := by
  -- the cells that are another's
  have hext : ∀ b i v, (G.enter p).own b i = some (.ext, []) → cl w b i = some v → (G.leave w p G2 q (.tmp d, [])).own b i = G.own b i ∧ cl w2 b i = some v ∧ fz w2 b i = fz w b i := by
    intro b i v h1 h2
    obtain ⟨k1, k2, k3⟩ := hk.cell b i v (.inr ⟨_, h1⟩) h2
    exact ⟨by simp only [Gh.leave]; rw [if_pos ⟨h1, v, h2⟩], k2, k3⟩
  have hnext : ∀ {b i v o}, G2.own b i = o → cl w2 b i = some v → o ≠ some (.ext, []) → ¬ ((G.enter p).own b i = some (.ext, []) ∧ ∃ v, cl w b i = some v) := by
    rintro b i v o h1 h2 h3 ⟨k1, v', k2⟩
    have := (hk.cell b i v' (.inr ⟨_, k1⟩) k2).1
    rw [h1, k1] at this
    exact h3 this
  have hsh : Sh G w (G.leave w p G2 q (.tmp d, [])) w2 := fun b i v h1 h2 => by
    have h0 := enter_none (p := p).2 h1
    obtain ⟨k1, k2, _⟩ := hk.cell b i v (.inl h0) h2
    refine ⟨?_, k2⟩
    simp only [Gh.leave]
    rw [if_neg (by rw [h0]; simp), k1, h0]
  have hsh2 : Sh G2 w2 (G.leave w p G2 q (.tmp d, [])) w2 := fun b i v h1 h2 => by
    refine ⟨?_, h2⟩
    simp only [Gh.leave]
    rw [if_neg (hnext h1 h2 (by simp)), h1]
  have how : ∀ ω : Owner, (∀ π, ∀ b i, G.own b i = some (ω.1, ω.2 ++ π) → (G.enter p).own b i = some (.ext, [])) → Ow G w ω (G.leave w p G2 q (.tmp d, [])) w2 ω never := by
    intro ω hω b i π v _ h1 h2
    obtain ⟨k1, k2, k3⟩ := hext b i v (hω π b i h1) h2
    exact ⟨k1.trans h1, k2, fun h => k3.trans h⟩
  have htmp : ∀ t, Ow G w (.tmp t, []) (G.leave w p G2 q (.tmp d, [])) w2 (.tmp t, []) never := fun t => how _ (fun π b i h => by simp [Gh.enter, h])
  have hhd : ∀ o v, G.hdr o = some v → (G.leave w p G2 q (.tmp d, [])).hdr o = some v := by
    intro o v hv
    simp only [Gh.leave]
    by_cases hqo : q o = true
    · rw [if_pos hqo]
      have hne : st.ob o ≠ .free := by
        intro e
        have := hrs.objs o
        rw [e] at this
        rw [show G.hdr o = none from this] at hv
        cases hv
      have hpo : p o = true := by
        cases hp : p o with
        | true => rfl
        | false => exact absurd (hq o hqo hp) hne
      exact hk.hdr o v (by simp [pass, hpo, hne]) (by simp [Gh.enter, hpo, hv])
    · rw [if_neg hqo]; exact hv
  have hkeep : ∀ S : Nat → Prop, Keep S G w (G.leave w p G2 q (.tmp d, [])) w2 := fun S => by
    refine ⟨hk.os, hk.tape, hk.output, hk.size, fun b i v h1 h2 => ?_, fun b hb hn => ?_, fun o v _ hv => hhd o v hv⟩
    · rcases h1 with h1 | ⟨π, h1⟩
      · have h0 := enter_none (p := p).2 h1
        obtain ⟨k1, k2, k3⟩ := hk.cell b i v (.inl h0) h2
        exact ⟨(hsh b i v h1 h2).1.trans h1.symm, k2, k3⟩
      · exact hext b i v (by simp [Gh.enter, h1]) h2
    · refine hk.block b hb fun i v hc => ?_
      rcases hn i v hc with h1 | ⟨π, h1⟩
      · exact .inl (enter_none.2 h1)
      · exact .inr ⟨[], by simp [Gh.enter, h1]⟩
  refine ⟨⟨hrs.defers, by show (a.tmps.setIfInBounds d u).size = _; simp [hrs.size], fun t => ?_, fun o => ?_⟩, hkeep⟩
  · show RelT _ _ _ (if t = d then some r else st.tm t) ((a.tmps.setIfInBounds d u).getD t undef)
    rw [getD_set _ _ _ _ (by rw [hrs.size]; exact hd)]
    by_cases e : t = d
    · subst e
      rw [if_pos rfl, if_pos rfl]
      refine RelV.mono hsh2 (fun b i π v _ h1 h2 => ?_) (fun o ho v hv => by simp [Gh.leave, hrr o ho, hv]) hv
      refine ⟨?_, h2, id⟩
      simp only [Gh.leave]
      rw [if_neg (hnext h1 h2 (by simp)), h1]
      rfl
    · rw [if_neg e, if_neg e]
      exact (hrs.tmps t).mono hsh (htmp t) (fun o _ v hv => hhd o v hv)
  · show RelO _ _ o (merge q st.ob h' o)
    unfold merge
    by_cases hqo : q o = true
    · rw [if_pos hqo]
      have h0 := ho o
      have hr := hrh o
      have howo : Ow G2 w2 (.obj o, []) (G.leave w p G2 q (.tmp d, [])) w2 (.obj o, []) never := fun b i π v _ h1 h2 => by
        refine ⟨?_, h2, id⟩
        simp only [Gh.leave]
        rw [if_neg (hnext h1 h2 (by simp)), h1]
        simp [hqo]
      have hhm : ∀ {T : List Nat}, (∀ o ∈ T, q o = true) → Hm T G2 (G.leave w p G2 q (.tmp d, [])) := fun hT o ho v hv => by simp [Gh.leave, hT o ho, hv]
      have hblk : ∀ {b : Nat} {cs : List Value} {e : TypeId}, w2.heap[b]? = some (.cells cs.toArray e (0, 0)) → (∀ i, i < cs.length → G2.own b i = some (.blk o, [])) → ∀ i, i < cs.length → (G.leave w p G2 q (.tmp d, [])).own b i = some (.blk o, []) := by
        intro b cs e h2 h4 i hi
        have hc : cl w2 b i = some cs[i] := by rw [cl_row h2, List.getElem?_eq_getElem hi]
        simp only [Gh.leave]
        rw [if_neg (hnext (h4 i hi) hc (by simp)), h4 i hi]
        simp [hqo]
      cases hx : h' o with
      | free => rw [hx] at h0; simp only [RelO, Gh.leave]; rw [if_pos hqo]; exact h0
      | dead => trivial
      | cell x =>
        rw [hx] at h0 hr
        obtain ⟨b, cs, e, h1, h2, h3, h4⟩ := h0
        exact ⟨b, cs, e, by simp [Gh.leave, hqo, h1], h2, Enc.mono hsh2 howo (hhm hr) h3, hblk h2 h4⟩
      | arr xs =>
        rw [hx] at h0 hr
        obtain ⟨b, cap, cs, e, h1, h2, h3, h4, h5, h6⟩ := h0
        refine ⟨b, cap, cs, e, by simp [Gh.leave, hqo, h1], h2, h3, h4, fun i x hx => ?_, hblk h2 h6⟩
        obtain ⟨c, c1, c2⟩ := h5 i x hx
        exact ⟨c, Enc.mono hsh2 (howo.sub [i] fun _ h => h) (hhm (hr x (List.mem_of_getElem? hx))) c1, c2⟩
    · rw [if_neg hqo]
      have hpo : p o = false := by
        cases hp : p o with
        | false => rfl
        | true => exact absurd (hpq o hp) hqo
      have h0 := hrs.objs o
      have howo : Ow G w (.obj o, []) (G.leave w p G2 q (.tmp d, [])) w2 (.obj o, []) never := how _ (fun π b i h => by simp [Gh.enter, h, hpo])
      have hblk : ∀ {b : Nat} {cs : List Value} {e : TypeId}, w.heap[b]? = some (.cells cs.toArray e (0, 0)) → (∀ i, i < cs.length → G.own b i = some (.blk o, [])) →
          w2.heap[b]? = w.heap[b]? ∧ ∀ i, i < cs.length → (G.leave w p G2 q (.tmp d, [])).own b i = some (.blk o, []) := by
        intro b cs e h2 h4
        have he : ∀ i, i < cs.length → (G.enter p).own b i = some (.ext, []) := fun i hi => by simp [Gh.enter, h4 i hi, hpo]
        refine ⟨hk.block b (lt_of_heap h2) fun i v hc => ?_, fun i hi => ?_⟩
        · rw [cl_row h2] at hc
          exact .inr ⟨[], he i (getElem?_lt hc)⟩
        · have hc : cl w b i = some cs[i] := by rw [cl_row h2, List.getElem?_eq_getElem hi]
          exact (hext b i _ (he i hi) hc).1.trans (h4 i hi)
      cases hx : st.ob o with
      | free => rw [hx] at h0; simp only [RelO, Gh.leave]; rw [if_neg hqo]; exact h0
      | dead => trivial
      | cell x =>
        rw [hx] at h0
        obtain ⟨b, cs, e, h1, h2, h3, h4⟩ := h0
        obtain ⟨k1, k2⟩ := hblk h2 h4
        exact ⟨b, cs, e, by simp [Gh.leave, hqo, h1], k1.trans h2, Enc.mono hsh howo (fun o _ v hv => hhd o v hv) h3, k2⟩
      | arr xs =>
        rw [hx] at h0
        obtain ⟨b, cap, cs, e, h1, h2, h3, h4, h5, h6⟩ := h0
        obtain ⟨k1, k2⟩ := hblk h2 h6
        refine ⟨b, cap, cs, e, by simp [Gh.leave, hqo, h1], k1.trans h2, h3, h4, fun i x hx => ?_, k2⟩
        obtain ⟨c, c1, c2⟩ := h5 i x hx
        exact ⟨c, Enc.mono hsh (howo.sub [i] fun _ h => h) (fun o _ v hv => hhd o v hv) c1, c2⟩

/-- What is called. -/
inductive Fun (st : St) : Operand → FuncId → List FV → List FV → Prop
  | mk {x : Operand} {f : FuncId} {a c : List FV} (hx : st.ev x = some (.fn f a c)) : Fun st x f a c

def avs (l : List FV) : List AV := l.map FV.av
theorem relFs_as {G w ω k0} {l : List FV} {us : List Value} (h : RelFs G w ω k0 l us) {G' w'} (hm : ∀ (x : FV) (u : Value) (k : Nat) (ω : Owner), x ∈ l → RelF G w ω x u → RelV G' w' (.tmp k, []) x.av u) : ∀ k, RelAs G' w' k (avs l) us := by
  induction l generalizing k0 us with
  | nil => intro k; exact h
  | cons x l ih =>
    obtain ⟨u, r, h1, h2, h3⟩ := h
    intro k
    exact ⟨u, r, h1, hm x u k _ (by simp) h2, ih h3 (fun x u k ω hx => hm x u k ω (by simp [hx])) (k + 1)⟩
theorem RelAs.append {G w} : ∀ {k : Nat} {l1 l2 : List AV} {u1 u2 : List Value}, RelAs G w k l1 u1 → RelAs G w (k + l1.length) l2 u2 → RelAs G w k (l1 ++ l2) (u1 ++ u2)
  | _, [], _, _, _, h1, h2 => by rw [show _ = [] from h1]; simpa using h2
  | k, x :: xs, _, _, _, ⟨u, r, e, h, h1⟩, h2 => by
    subst e
    exact ⟨u, _, rfl, h, RelAs.append h1 (by rw [show k + 1 + xs.length = k + (x :: xs).length by simp; omega]; exact h2)⟩

section ops
variable {d : Nat} {T pos aft} {x y z : Operand}

/-- The core of a call. -/
theorem call_core {f : FuncId} {xs : List Operand} {av : List AV} {fa fc : List FV} {rt rt0 ro : List Nat} {ts : Array TypeId} {p : Nat → Bool} {ob : Nat → Obj} {R : AV → (Nat → Obj) → Prop}
    (hfun : st.ev x = some (.fn f fa fc)) (ha : Args st 0 xs av rt) (hB : fnB P f = true) (hct : Ct P f (avs fa ++ av ++ avs fc) (pass p ob) R)
    (hdis : ∀ z ∈ avs fa ++ av ++ avs fc, z.dis = z ∧ ∀ o ∈ z.refs, p o = true) (hobs : ∀ o, p o = true → obOk p (ob o))
    {st1 : St} (hag : Agree rt0 ro st st1) (hsub : ∀ t ∈ opT x ++ rt, t ∈ rt0) (hob1 : ∀ o, p o = true → st1.ob o = ob o) {G : Gh} {w : World} {a : Act} (hr : RelSt G w a st1) {K : Act → World → Prop} {Q : Exit → Act → World → Prop} (hd : d < st1.n)
    (hK : ∀ r h' u G2 w2, R r h' → RelV G2 w2 (.ret, []) r u → (∀ o, RelO G2 w2 o (h' o)) → Keep (fun o => pass p st1.ob o ≠ .free) (G.enter p) w G2 w2 → K (a.put (some d) u) w2) :
    stepO P ops ⟨some d, .call { callee := .value x, args := xs.toArray, argTypes := ts }, T, pos, aft, none⟩ K Q a w := by
  unfold stepO
  rw [if_pos (by simp [Region.wanted])]
  refine .inl ?_
  have h1 := hr.at hag hfun fun t ht => hsub _ (List.mem_append_left _ ht)
  obtain ⟨us, vs, e1, e2, e3⟩ := h1
  have hargs := Args.rel (k' := 0) hr hag ha fun t ht => hsub _ (List.mem_append_right _ ht)
  have hargs' : ∀ {k k' l us}, RelAs G w k l us → (∀ z ∈ l, z.dis = z ∧ ∀ o ∈ z.refs, p o = true) → RelAs (G.enter p) w k' l us := by
    intro k k' l
    induction l generalizing k k' with
    | nil => intro us h _; exact h
    | cons z l ih =>
      rintro us ⟨u, r, q1, q2, q3⟩ hz
      exact ⟨u, r, q1, q2.enter (hz z (by simp)).1 (hz z (by simp)).2, ih q3 fun z hz' => hz z (by simp [hz'])⟩
  have hfv : ∀ {k0 ω l us}, RelFs G w ω k0 l us → (∀ z ∈ avs l, z.dis = z ∧ ∀ o ∈ z.refs, p o = true) → ∀ k, RelAs (G.enter p) w k (avs l) us := by
    intro k0 ω l us h hz
    refine relFs_as h fun z u k ω' hz' h' => ?_
    have hz2 := hz z.av (List.mem_map_of_mem hz')
    refine RelV.enter (ω := ω') hz2.1 hz2.2 ?_
    cases z with
    | v z => exact h'
    | box o L => exact h'
  have hall : RelAs (G.enter p) w 0 (avs fa ++ av ++ avs fc) (us ++ xs.map a.eval ++ vs) := by
    refine RelAs.append (RelAs.append (hfv e2 (fun z hz => hdis z (by simp [hz])) 0) (hargs' hargs fun z hz => hdis z (by simp [hz]))) (hfv e3 (fun z hz => hdis z (by simp [hz])) _)
  have hrun : (execOp a.eval ⟨some d, .call { callee := .value x, args := xs.toArray, argTypes := ts }, T, pos, aft, none⟩).run P w = .ok (.enter f (us ++ xs.map a.eval ++ vs).toArray) w := by
    simp only [execOp, resolve, Deferred.ofValue, e1, Sem.run_bind, Sem.run_pure, Result.andThen_ok, invoke, callFunc_run hB]
    simp
  unfold Oper.wp
  rw [hrun]
  simp only [Oper.upon]
  refine (hct (G.enter p) w _ hall fun o => ?_).mono ?_
  · unfold pass
    by_cases hp : p o = true
    · rw [if_pos hp, ← hob1 o hp]
      exact (hr.objs o).enter hp (by rw [hob1 o hp]; exact hobs o hp)
    · rw [if_neg hp]; simp [RelO, Gh.enter, hp]
  · rintro e w2 ⟨r, h', v, G2, rfl, q1, q2, q3, q4⟩
    refine hK r h' v G2 w2 q1 q2 q3 ?_
    have : pass p st1.ob = pass p ob := by funext o; unfold pass; by_cases hp : p o = true <;> simp [hp]; exact hob1 o hp
    rw [this]; exact q4

/-- A call that hands no object and gives a known result. -/
theorem op_call {f : FuncId} {xs : List Operand} {av : List AV} {ts : Array TypeId} {rt : List Nat} {r : AV} (hB : fnB P f = true) (ha : Args st 0 xs av rt) (hct : CtP P f av r) (hdis : ∀ z ∈ av, z.dis = z ∧ ∀ o ∈ z.refs, false = true) (hrr : r.refs = []) (hn : Nat.blt d st.n = true) :
    OpOk P S ops ⟨some d, .call { callee := .value (.func f), args := xs.toArray, argTypes := ts }, T, pos, aft, none⟩ rt [] [(d, some r)] [] st := by
  intro st1 hag G w a hr K Q hK
  have hd : d < st1.n := by rw [hag.n]; simpa using hn
  have hct' : Ct P f (avs [] ++ av ++ avs []) (pass (fun _ => false) noObj) (fun r1 h1 => r1 = r ∧ h1 = noObj) := by
    have e1 : avs [] ++ av ++ avs [] = av := by simp [avs]
    have e2 : pass (fun _ => false) noObj = noObj := rfl
    rw [e1, e2]; exact hct
  refine call_core (x := .func f) (fa := []) (fc := []) (rt := rt) (p := fun _ => false) (ob := noObj) rfl ha hB hct' (fun z hz => hdis z (by simpa [avs] using hz)) (fun o h => by cases h) hag (fun t ht => by simpa [opT] using ht) (fun o h => by cases h) hr hd ?_
  rintro r1 h' u G2 w2 ⟨rfl, rfl⟩ hv ho hk
  obtain ⟨k1, k2⟩ := leave_spec (q := fun _ => false) hr hd (fun o h => h) (fun o h => by cases h) (fun o _ => rfl) (by rw [hrr]; intro o ho; cases ho) (fun o => trivial) hv ho hk
  refine hK _ _ _ ?_ (k2 S)
  have e : (⟨st1.n, fun t => if t = d then some r1 else st1.tm t, merge (fun _ => false) st1.ob noObj⟩ : St) = st1.upd [(d, some r1)] [] := by
    unfold St.upd merge
    congr 1
    funext t
    simp only [lk]
    by_cases e : t = d <;> simp [e, orr]
  rw [← e]; exact k1

/-- A call in general, in a sequence. -/
theorem awpOps_call {f : FuncId} {xs : List Operand} {av : List AV} {fa fc : List FV} {ts : Array TypeId} {rt : List Nat} {l : List Oper} {Q : St → Prop} (p q : Nat → Bool) {R : AV → (Nat → Obj) → Prop}
    (hfun : st.ev x = some (.fn f fa fc)) (hB : fnB P f = true) (ha : Args st 0 xs av rt) (hct : Ct P f (avs fa ++ av ++ avs fc) (pass p st.ob) R)
    (hdis : ∀ z ∈ avs fa ++ av ++ avs fc, z.dis = z ∧ ∀ o ∈ z.refs, p o = true) (hobs : ∀ o, p o = true → obOk p (st.ob o)) (hn : Nat.blt d st.n = true) (hpq : ∀ o, p o = true → q o = true) (hq : ∀ o, q o = true → p o = false → st.ob o = .free)
    (hk : ∀ r h', R r h' → (∀ o, q o = false → h' o = .free) ∧ (∀ o ∈ r.refs, q o = true) ∧ (∀ o, obOk q (h' o)) ∧ awpOps P S ops l Q ⟨st.n, fun t => if t = d then some r else st.tm t, merge q st.ob h'⟩) :
    awpOps P S ops (⟨some d, .call { callee := .value x, args := xs.toArray, argTypes := ts }, T, pos, aft, none⟩ :: l) Q st := by
  intro G w a hr Q' hQ
  have hd : d < st.n := by simpa using hn
  refine stepO_cons (call_core (rt := rt) (p := p) (ob := st.ob) hfun ha hB hct hdis hobs (Agree.refl (opT x ++ rt) [] st) (fun _ h => h) (fun _ _ => rfl) hr hd ?_)
  intro r h' u G2 w2 hR hv ho hkp
  obtain ⟨m1, m2, m3, m4⟩ := hk r h' hR
  obtain ⟨k1, k2⟩ := leave_spec (q := q) hr hd hpq hq m1 m2 m3 hv ho hkp
  exact m4 _ _ _ k1 Q' fun a'' w'' G'' st'' k1' k2' hq' => hQ a'' w'' G'' st'' k1' ((k2 S).trans k2') hq'
end ops

/-! ### Guards -/
theorem yielded_eq {ops : Array Oper} {tmps : Array Value} {j t : Nat} {b : Bool} (hj : (ops[j]?).bind (·.dst) = some t) (ht : tmps.getD t undef = .bool b) (hl : t < tmps.size) : yielded ops tmps j = some b := by
  unfold yielded
  rw [hj]
  simp only [Option.bind_some]
  have : tmps[t]? = some (.bool b) := by
    rw [Array.getElem?_eq_getElem hl]
    simp only [Array.getD_eq_getD_getElem?, Array.getElem?_eq_getElem hl] at ht
    simpa using ht
  rw [this]
/-- A guarded operation whose guard says yes. -/
theorem g_on {j t : Nat} {b : Bool} {dst op T pos aft} {rt ro wt wo} (hj : (ops[j]?).bind (·.dst) = some t) (ht : st.tm t = some (.v b)) (hl : Nat.blt t st.n = true) (h : OpOk P S ops ⟨dst, op, T, pos, aft, none⟩ rt ro wt wo st) :
    OpOk P S ops ⟨dst, op, T, pos, aft, some (j, b)⟩ (t :: rt) ro wt wo st := by
  intro st1 hag G w a hr K Q hK
  have h1 := h st1 ⟨hag.n, fun t ht => hag.tm t (by simp [ht]), hag.ob⟩ G w a hr K Q hK
  have hv := hr.tmps t
  rw [hag.tm t (by simp), ht] at hv
  have hy := yielded_eq hj (RelV.bool hv) (by rw [hr.size, hag.n]; simpa using hl)
  unfold stepO at h1 ⊢
  rw [if_pos (by simp [Region.wanted])] at h1
  rw [if_pos (by simp [Region.wanted, hy])]
  exact h1
/-- A guarded operation whose guard says no. -/
theorem g_off {j t d : Nat} {b c : Bool} {op T pos aft} (hj : (ops[j]?).bind (·.dst) = some t) (ht : st.tm t = some (.v c)) (hne : (c == b) = false) (hl : Nat.blt t st.n = true) (hn : Nat.blt d st.n = true) :
    OpOk P S ops ⟨some d, op, T, pos, aft, some (j, b)⟩ [t] [] [(d, some .und)] [] st := by
  intro st1 hag G w a hr K Q hK
  have hv := hr.tmps t
  rw [hag.tm t (by simp), ht] at hv
  have hy := yielded_eq hj (RelV.bool hv) (by rw [hr.size, hag.n]; simpa using hl)
  unfold stepO
  rw [if_neg (by simp only [Region.wanted, hy]; intro e; simp at e; subst e; simp at hne)]
  exact hK _ _ G (hr.put (av := some .und) (by rw [hag.n]; simpa using hn) rfl) (Keep.refl _ _ _)
theorem yielded_und {ops : Array Oper} {tmps : Array Value} {j t : Nat} (hj : (ops[j]?).bind (·.dst) = some t) (ht : tmps.getD t undef = undef) : yielded ops tmps j = none := by
  unfold yielded
  rw [hj]
  simp only [Option.bind_some]
  cases h : tmps[t]? with
  | none => rfl
  | some v =>
    have : v = undef := by
      simp only [Array.getD_eq_getD_getElem?, h, Option.getD_some] at ht
      exact ht
    subst this
    rfl
/-- A guarded operation whose guard was not asked. -/
theorem g_und {j t d : Nat} {b : Bool} {op T pos aft} (hj : (ops[j]?).bind (·.dst) = some t) (ht : st.tm t = some .und) (hn : Nat.blt d st.n = true) :
    OpOk P S ops ⟨some d, op, T, pos, aft, some (j, b)⟩ [t] [] [(d, some .und)] [] st := by
  intro st1 hag G w a hr K Q hK
  have hv := hr.tmps t
  rw [hag.tm t (by simp), ht] at hv
  have hy := yielded_und hj hv
  unfold stepO
  rw [if_neg (by simp [Region.wanted, hy])]
  exact hK _ _ G (hr.put (av := some .und) (by rw [hag.n]; simpa using hn) rfl) (Keep.refl _ _ _)
theorem g_und' {j t : Nat} {b : Bool} {op T pos aft} (hj : (ops[j]?).bind (·.dst) = some t) (ht : st.tm t = some .und) :
    OpOk P S ops ⟨none, op, T, pos, aft, some (j, b)⟩ [t] [] [] [] st := by
  intro st1 hag G w a hr K Q hK
  have hv := hr.tmps t
  rw [hag.tm t (by simp), ht] at hv
  have hy := yielded_und hj hv
  unfold stepO
  rw [if_neg (by simp [Region.wanted, hy])]
  exact hK _ _ G hr (Keep.refl _ _ _)
theorem g_off' {j t : Nat} {b c : Bool} {op T pos aft} (hj : (ops[j]?).bind (·.dst) = some t) (ht : st.tm t = some (.v c)) (hne : (c == b) = false) (hl : Nat.blt t st.n = true) :
    OpOk P S ops ⟨none, op, T, pos, aft, some (j, b)⟩ [t] [] [] [] st := by
  intro st1 hag G w a hr K Q hK
  have hv := hr.tmps t
  rw [hag.tm t (by simp), ht] at hv
  have hy := yielded_eq hj (RelV.bool hv) (by rw [hr.size, hag.n]; simpa using hl)
  unfold stepO
  rw [if_neg (by simp only [Region.wanted, hy]; intro e; simp at e; subst e; simp at hne)]
  exact hK _ _ G hr (Keep.refl _ _ _)

/-- A test is parted. -/
theorem g_split {l : List Oper} {Q : St → Prop} {t : Nat} {c : Bool} (ht : st.tm t = some (.v c)) (h1 : c = true → awpOps P S ops l Q (st.upd [(t, some (.v true))] [])) (h2 : c = false → awpOps P S ops l Q (st.upd [(t, some (.v false))] [])) : awpOps P S ops l Q st := by
  intro G w a hr Q' hQ
  have key : ∀ b : Bool, c = b → RelSt G w a (st.upd [(t, some (.v b))] []) := by
    intro b hb
    subst hb
    refine ⟨hr.defers, hr.size, fun q => ?_, hr.objs⟩
    show RelT _ _ _ (orr (lk [(t, some (AV.v c))] q) (st.tm q)) _
    simp only [lk]
    by_cases e : q = t
    · subst e
      rw [if_pos rfl]
      have := hr.tmps q
      rw [ht] at this
      exact this
    · rw [if_neg e]; exact hr.tmps q
  cases c with
  | true => exact h1 rfl G w a (key true rfl) Q' hQ
  | false => exact h2 rfl G w a (key false rfl) Q' hQ

theorem g_lit {l : List Oper} {Q : St → Prop} {t : Nat} {b : Bool} (ht : st.tm t = some (.v b)) (h : awpOps P S ops l Q st) : awpOps P S ops l Q st := h
theorem g_ulit {l : List Oper} {Q : St → Prop} {t : Nat} (ht : st.tm t = some .und) (h : awpOps P S ops l Q st) : awpOps P S ops l Q st := h
theorem ex_block {id : Nat} {Q : Exit → St → Prop} (h : Q .normal st) : ablock id Q (.exit id) st := by simp [ablock, h]

theorem ex_seq {id : Nat} {K : St → Prop} {Q : Exit → St → Prop} (h : Q (.exit id) st) : athen K Q (.exit id) st := h
theorem rt_seq {K : St → Prop} {Q : Exit → St → Prop} (h : Q .ret st) : athen K Q .ret st := h
theorem rt_block {id : Nat} {Q : Exit → St → Prop} (h : Q .ret st) : ablock id Q .ret st := h
theorem nx_seq {K : St → Prop} {Q : Exit → St → Prop} (h : K st) : athen K Q .normal st := h
theorem nx_block {id : Nat} {Q : Exit → St → Prop} (h : Q .normal st) : ablock id Q .normal st := h
theorem ex_other {id j : Nat} {Q : Exit → St → Prop} (hne : Nat.beq j id = false) (h : Q (.exit j) st) : ablock id Q (.exit j) st := by
  have : j ≠ id := by intro e; subst e; simp at hne
  simp [ablock, this, h]
theorem awp_loop' {c : Code} {Q : Exit → St → Prop} (I : Nat → St → Prop) (n : Nat) {s0 : St} (hI : I n s0) (hle : Le S st s0)
    (round : ∀ n s, I n s → awp P S c (athen (fun s' => ∃ n' s'', n' < n ∧ I n' s'' ∧ Le S s' s'') Q) s) : awp P S (.loop c) Q st :=
  awp_loop I n ⟨s0, hle, hI⟩ fun n s h => awp_mono (round n s h) fun e s' q => by
    cases e with
    | normal => obtain ⟨n', s'', h1, h2, h3⟩ := q; exact ⟨n', s'', h1, h3, h2⟩
    | exit id => exact q
    | goto l => exact q
    | ret => exact q
    | panic ch => exact q
    | outgrown => exact q
/-- What comes first ends in one state. -/
theorem awp_seq_to {x y : Code} {Q : Exit → St → Prop} {s' : St} (h1 : awp P S x (athen (fun s => Le S s s') Q) st) (h2 : awp P S y Q s') : awp P S (.seq x y) Q st :=
  awp_seq (awp_mono h1 fun e s q => by
    cases e with
    | normal => exact awp_le q h2
    | exit id => exact q
    | goto l => exact q
    | ret => exact q
    | panic ch => exact q
    | outgrown => exact q)
theorem tln {p : Nat → Bool} : TL st p [] := trivial
theorem tlk {p : Nat → Bool} {t : Nat} {av : AV} {r : List (Nat × AV)} (h : st.tm t = some av) (hr : av.refs = []) (k : TL st p r) : TL st p ((t, av) :: r) := ⟨⟨⟨av, h, .inl rfl⟩, by rw [hr]; intro o ho; cases ho⟩, k⟩
theorem tlc {p : Nat → Bool} {t : Nat} {av0 av : AV} {r : List (Nat × AV)} (h : st.tm t = some av0) (hc : Conv av0 av) (hr : av.refs = []) (k : TL st p r) : TL st p ((t, av) :: r) := ⟨⟨⟨av0, h, .inr hc⟩, by rw [hr]; intro o ho; cases ho⟩, k⟩
theorem tle {p : Nat → Bool} {t : Nat} {av0 av : AV} {r : List (Nat × AV)} (h : st.tm t = some av0) (he : av0 = av) (hr : av.refs = []) (k : TL st p r) : TL st p ((t, av) :: r) := ⟨⟨⟨av0, h, .inl he⟩, by rw [hr]; intro o ho; cases ho⟩, k⟩
theorem tlb {p : Nat → Bool} {t o : Nat} {av : AV} {r : List (Nat × AV)} (h : st.tm t = some av) (hr : av.refs = [o]) (hp : p o = true) (k : TL st p r) : TL st p ((t, av) :: r) := ⟨⟨⟨av, h, .inl rfl⟩, by rw [hr]; intro o ho; simp at ho; subst ho; exact hp⟩, k⟩
theorem oln {p : Nat → Bool} : OL st p [] := trivial
theorem olk {p : Nat → Bool} {o : Nat} {x : Obj} {r : List (Nat × Obj)} (h : st.ob o = x) (hx : obOk p x) (k : OL st p r) : OL st p ((o, x) :: r) := ⟨⟨h, hx⟩, k⟩

/-! ### Ends -/
theorem ROk.v {t : Nat} {av : AV} {α : Type} [Enc α] {x : α} (hx : st.tm t = some av) (hc : Conv av (.v x)) : ROk P st (.tmp t) (.v x) := .rt hx hc
theorem ROk.b {t : Nat} {av : AV} {o : Nat} {α γ : Type} [Enc α] [Enc γ] {get : α → γ} {set : α → γ → α} {off : Nat} {pth : List Nat} {L : IsLens get set off pth} (hx : st.tm t = some av) (hc : Conv av (.box o L)) : ROk P st (.tmp t) (.box o L) := .rt hx hc
theorem noS {ol : List (Nat × Obj)} : ∀ o, (fun o => noObj o ≠ Obj.free) o → keys ol o = true := fun o h => absurd rfl h
/-- The end of a function without objects of others: one result. -/
theorem finP {rv : ResultVar} {r : FV} {r' : AV} (h : ROk P st rv r) (hr : r.refs = []) (he : r.av = r') : ∃ r1 h1, ResOk P (fun o => noObj o ≠ .free) #[rv] r1 h1 st ∧ r1 = r' ∧ h1 = noObj :=
  ⟨_, _, res1 (ol := []) h (by rw [hr]; intro o ho; cases ho) trivial noS, he, rfl⟩
theorem finN {rvs : List ResultVar} {rs : List FV} {r' : AV} (h : RsOk P st rvs rs) (hl : Nat.beq rs.length 1 = false) (hr : rs.flatMap FV.refs = []) (he : AV.tup rs = r') : ∃ r1 h1, ResOk P (fun o => noObj o ≠ .free) rvs.toArray r1 h1 st ∧ r1 = r' ∧ h1 = noObj :=
  ⟨_, _, resN (ol := []) h hl (by rw [hr]; intro o ho; cases ho) trivial noS, he, rfl⟩
theorem argOk0 : ∀ z ∈ ([] : List AV), z.dis = z ∧ ∀ o ∈ z.refs, false = true := fun z h => by cases h
theorem argOk {x : AV} {l : List AV} (h1 : x.dis = x) (h2 : x.refs = []) (h : ∀ z ∈ l, z.dis = z ∧ ∀ o ∈ z.refs, false = true) : ∀ z ∈ x :: l, z.dis = z ∧ ∀ o ∈ z.refs, false = true := fun z hz => by
  rcases List.mem_cons.1 hz with rfl | hz
  · exact ⟨h1, by rw [h2]; intro o ho; cases ho⟩
  · exact h z hz
end Go.Wt

/- Regions whose order is open: one run in the text's order, and a look at which operations touch what, serve all orders. -/
set_option linter.unusedVariables false
set_option linter.unusedSimpArgs false
namespace Go.Wt
open Go

variable {P : Program} {S : Nat → Prop} {ops : Array Oper} {st : St}

structure Rec where
  rt : List Nat
  ro : List Nat
  wt : List (Nat × Option AV)
  wo : List (Nat × Obj)

/-! ### Which operation stands ahead of which -/
def mask (o : Oper) (acc : List Nat) : Nat := o.after.toList.foldl (fun s e => if Region.binds .any e then s ||| (2 ^ e.on ||| acc.getD e.on 0) else s) 0
def befs : List Oper → List Nat → List Nat
  | [], acc => acc
  | o :: l, acc => befs l (acc ++ [mask o acc])
def hits (a b : List Nat) : Bool := a.any fun x => b.contains x
/-- Two operations that touch nothing in common. -/
def apart (a b : Rec) : Bool :=
  !hits (a.wt.map (·.1)) (b.rt ++ b.wt.map (·.1)) && !hits (b.wt.map (·.1)) a.rt && !hits (a.wo.map (·.1)) (b.ro ++ b.wo.map (·.1)) && !hits (b.wo.map (·.1)) a.ro
def chkRow (bs : List Nat) (r : Rec) (j : Nat) : Nat → List Rec → Bool
  | _, [] => true
  | i, q :: l => (decide (j ≤ i) || (bs.getD j 0).testBit i || apart q r) && chkRow bs r j (i + 1) l
def chkAll (bs : List Nat) (all : List Rec) : Nat → List Rec → Bool
  | _, [] => true
  | j, r :: l => chkRow bs r j 0 all && chkAll bs all (j + 1) l
def edgesOk : Nat → List Oper → Bool
  | _, [] => true
  | j, o :: l => (o.after.toList.all fun e => !Region.binds .any e || decide (e.on < j)) && edgesOk (j + 1) l
def chk (ops : List Oper) (recs : List Rec) : Bool := edgesOk 0 ops && Nat.beq recs.length ops.length && chkAll (befs ops []) recs 0 recs

theorem hits_false {a b : List Nat} (h : hits a b = false) {x : Nat} (ha : x ∈ a) (hb : x ∈ b) : False := by
  unfold hits at h
  rw [List.any_eq_false] at h
  exact h x ha (by simpa using hb)

theorem befs_length : ∀ (l : List Oper) (acc : List Nat), (befs l acc).length = acc.length + l.length
  | [], acc => by simp [befs]
  | o :: l, acc => by rw [befs, befs_length l]; simp; omega
theorem befs_prefix : ∀ (l : List Oper) (acc : List Nat) (j : Nat), j < acc.length → (befs l acc)[j]? = acc[j]?
  | [], acc, j, h => rfl
  | o :: l, acc, j, h => by rw [befs, befs_prefix l _ j (by simp; omega), List.getElem?_append_left h]
theorem befs_at : ∀ (l : List Oper) (acc : List Nat) (k : Nat) (o : Oper), l[k]? = some o → ∃ acc', acc'.length = acc.length + k ∧ (befs l acc)[acc.length + k]? = some (mask o acc') ∧ ∀ j, j < acc.length + k → (befs l acc)[j]? = acc'[j]?
  | [], acc, k, o, h => by simp at h
  | x :: l, acc, 0, o, h => by
    simp at h; subst h
    refine ⟨acc, rfl, ?_, fun j hj => ?_⟩
    · rw [befs, befs_prefix l _ _ (by simp)]; simp
    · rw [befs, befs_prefix l _ j (by simp; omega), List.getElem?_append_left (by omega)]
  | x :: l, acc, k + 1, o, h => by
    obtain ⟨acc', h1, h2, h3⟩ := befs_at l (acc ++ [mask x acc]) k o (by simpa using h)
    simp only [List.length_append, List.length_cons, List.length_nil] at h1 h2 h3
    refine ⟨acc', by omega, ?_, fun j hj => ?_⟩
    · rw [befs, show acc.length + (k + 1) = acc.length + (0 + 1) + k by omega]; exact h2
    · rw [befs]; exact h3 j (by omega)
theorem mask_bit (o : Oper) (acc : List Nat) (i : Nat) (h : (mask o acc).testBit i = true) : ∃ e ∈ o.after, Region.binds .any e = true ∧ (e.on = i ∨ (acc.getD e.on 0).testBit i = true) := by
  have key : ∀ (l : List Edge) (s : Nat), (l.foldl (fun s e => if Region.binds .any e then s ||| (2 ^ e.on ||| acc.getD e.on 0) else s) s).testBit i = true → s.testBit i = true ∨ ∃ e ∈ l, Region.binds .any e = true ∧ (e.on = i ∨ (acc.getD e.on 0).testBit i = true) := by
    intro l
    induction l with
    | nil => intro s h; exact .inl h
    | cons e l ih =>
      intro s h
      simp only [List.foldl_cons] at h
      rcases ih _ h with h | ⟨e', h1, h2⟩
      · by_cases hb : Region.binds .any e = true
        · rw [if_pos hb] at h
          simp only [Nat.testBit_or, Bool.or_eq_true, Nat.testBit_two_pow, decide_eq_true_eq] at h
          rcases h with h | h | h
          · exact .inl h
          · exact .inr ⟨e, by simp, hb, .inl h⟩
          · exact .inr ⟨e, by simp, hb, .inr h⟩
        · rw [if_neg hb] at h; exact .inl h
      · exact .inr ⟨e', by simp [h1], h2⟩
  rcases key o.after.toList 0 h with h | ⟨e, h1, h2⟩
  · simp at h
  · exact ⟨e, by simpa using h1, h2⟩

/-- What has been done is closed downwards. -/
def Down (ops : List Oper) (D : Nat → Bool) : Prop := ∀ (j : Nat) (o : Oper), ops[j]? = some o → D j = true → ∀ e ∈ o.after, Region.binds .any e = true → D e.on = true
theorem edgesOk_at : ∀ (l : List Oper) (j0 k : Nat) (o : Oper), edgesOk j0 l = true → l[k]? = some o → ∀ e ∈ o.after, Region.binds .any e = true → e.on < j0 + k
  | [], _, _, _, _, h => by simp at h
  | x :: l, j0, 0, o, h1, h => by
    simp at h; subst h
    simp only [edgesOk, Bool.and_eq_true, List.all_eq_true] at h1
    intro e he hb
    have := h1.1 e (by simpa using he)
    simpa [hb] using this
  | x :: l, j0, k + 1, o, h1, h => by
    simp only [edgesOk, Bool.and_eq_true] at h1
    intro e he hb
    have := edgesOk_at l (j0 + 1) k o h1.2 (by simpa using h) e he hb
    omega
theorem bit_down {ops : List Oper} {D : Nat → Bool} (he : edgesOk 0 ops = true) (hD : Down ops D) : ∀ (j : Nat), j < ops.length → D j = true → ∀ i, ((befs ops []).getD j 0).testBit i = true → D i = true := by
  intro j
  induction j using Nat.strongRecOn with
  | _ j ih =>
    intro hj hDj i hb
    obtain ⟨o, ho⟩ : ∃ o, ops[j]? = some o := ⟨_, List.getElem?_eq_getElem hj⟩
    obtain ⟨acc', h1, h2, h3⟩ := befs_at ops [] j o ho
    simp only [List.length_nil, Nat.zero_add] at h1 h2 h3
    rw [List.getD_eq_getElem?_getD, h2] at hb
    obtain ⟨e, e1, e2, e3⟩ := mask_bit o acc' i hb
    have hlt := edgesOk_at ops 0 j o he ho e e1 e2
    have hDe := hD j o ho hDj e e1 e2
    rcases e3 with e3 | e3
    · rw [← e3]; exact hDe
    · refine ih e.on (by omega) (by omega) hDe i ?_
      rw [List.getD_eq_getElem?_getD, h3 e.on (by omega), ← List.getD_eq_getElem?_getD]
      exact e3

theorem chkRow_at {bs : List Nat} {r : Rec} {j : Nat} : ∀ {i0 : Nat} {l : List Rec}, chkRow bs r j i0 l = true → ∀ (k : Nat) (q : Rec), l[k]? = some q → i0 + k < j → (bs.getD j 0).testBit (i0 + k) = true ∨ apart q r = true
  | _, [], _, k, q, h, _ => by simp at h
  | i0, x :: l, h, 0, q, hq, hlt => by
    simp at hq; subst hq
    simp only [chkRow, Bool.and_eq_true, Bool.or_eq_true, decide_eq_true_eq] at h
    rcases h.1 with (h | h) | h
    · omega
    · exact .inl h
    · exact .inr h
  | i0, x :: l, h, k + 1, q, hq, hlt => by
    simp only [chkRow, Bool.and_eq_true] at h
    have := chkRow_at h.2 k q (by simpa using hq) (by omega)
    rwa [show i0 + 1 + k = i0 + (k + 1) by omega] at this
theorem chkAll_at {bs : List Nat} {all : List Rec} : ∀ {j0 : Nat} {l : List Rec}, chkAll bs all j0 l = true → ∀ (k : Nat) (r : Rec), l[k]? = some r → chkRow bs r (j0 + k) 0 all = true
  | _, [], _, k, r, h => by simp at h
  | j0, x :: l, h, 0, r, hr => by
    simp at hr; subst hr
    simp only [chkAll, Bool.and_eq_true] at h
    exact h.1
  | j0, x :: l, h, k + 1, r, hr => by
    simp only [chkAll, Bool.and_eq_true] at h
    have := chkAll_at h.2 k r (by simpa using hr)
    rwa [show j0 + 1 + k = j0 + (k + 1) by omega] at this

/-! ### States that some of the operations have made -/
def Rec.app (r : Rec) (st : St) : St := st.upd r.wt r.wo
def run (D : Nat → Bool) : Nat → List Rec → St → St
  | _, [], st => st
  | k, r :: l, st => run D (k + 1) l (cond (D k) (r.app st) st)
theorem lk_none {β : Type 1} {l : List (Nat × β)} {t : Nat} (h : t ∉ l.map (·.1)) : lk l t = none := by
  induction l with
  | nil => rfl
  | cons x l ih =>
    obtain ⟨k, y⟩ := x
    simp only [List.map_cons, List.mem_cons, not_or] at h
    simp only [lk]
    rw [if_neg h.1]
    exact ih h.2
theorem app_tm (r : Rec) (st : St) (t : Nat) : (r.app st).tm t = orr (lk r.wt t) (st.tm t) := rfl
theorem app_ob (r : Rec) (st : St) (t : Nat) : (r.app st).ob t = orr (lk r.wo t) (st.ob t) := rfl
/-- Where no operation on which two sets part writes, the states agree. -/
theorem run_tm {D E : Nat → Bool} (t : Nat) : ∀ (l : List Rec) (k : Nat) (s s' : St), s.tm t = s'.tm t → (∀ (i : Nat) (r : Rec), l[i]? = some r → D (k + i) ≠ E (k + i) → t ∉ r.wt.map (·.1)) → (run D k l s).tm t = (run E k l s').tm t
  | [], _, _, _, h, _ => h
  | r :: l, k, s, s', h, hd => by
    simp only [run]
    refine run_tm t l (k + 1) _ _ ?_ (fun i q hq hne => hd (i + 1) q (by simpa using hq) (by rwa [show k + (i + 1) = k + 1 + i by omega]))
    by_cases hne : D k = E k
    · rw [hne]
      cases E k with
      | true => simp only [cond_true]; rw [app_tm, app_tm, h]
      | false => exact h
    · have hw := hd 0 r rfl (by simpa using hne)
      have e := lk_none hw
      cases D k <;> cases E k <;> simp [app_tm, e, orr, h]
theorem run_ob {D E : Nat → Bool} (t : Nat) : ∀ (l : List Rec) (k : Nat) (s s' : St), s.ob t = s'.ob t → (∀ (i : Nat) (r : Rec), l[i]? = some r → D (k + i) ≠ E (k + i) → t ∉ r.wo.map (·.1)) → (run D k l s).ob t = (run E k l s').ob t
  | [], _, _, _, h, _ => h
  | r :: l, k, s, s', h, hd => by
    simp only [run]
    refine run_ob t l (k + 1) _ _ ?_ (fun i q hq hne => hd (i + 1) q (by simpa using hq) (by rwa [show k + (i + 1) = k + 1 + i by omega]))
    by_cases hne : D k = E k
    · rw [hne]
      cases E k with
      | true => simp only [cond_true]; rw [app_ob, app_ob, h]
      | false => exact h
    · have hw := hd 0 r rfl (by simpa using hne)
      have e := lk_none hw
      cases D k <;> cases E k <;> simp [app_ob, e, orr, h]
theorem run_n {D : Nat → Bool} : ∀ (l : List Rec) (k : Nat) (s : St), (run D k l s).n = s.n
  | [], _, _ => rfl
  | r :: l, k, s => by
    simp only [run]
    rw [run_n l]
    cases D k <;> simp [Rec.app]
theorem run_cat {D : Nat → Bool} : ∀ (l1 l2 : List Rec) (k : Nat) (s : St), run D k (l1 ++ l2) s = run D (k + l1.length) l2 (run D k l1 s)
  | [], l2, k, s => by simp [run]
  | r :: l1, l2, k, s => by
    simp only [List.cons_append, run]
    rw [run_cat l1 l2 (k + 1)]
    congr 1
    simp; omega

/-- The run in the text's order. -/
def DRun (P : Program) (S : Nat → Prop) (ops : Array Oper) : List Oper → List Rec → St → Prop
  | [], [], _ => True
  | o :: l, r :: rs, s => OpOk P S ops o r.rt r.ro r.wt r.wo s ∧ DRun P S ops l rs (r.app s)
  | _, _, _ => False
theorem DRun.at : ∀ {l : List Oper} {rs : List Rec} {s : St} {k : Nat} {o : Oper} {r : Rec}, DRun P S ops l rs s → l[k]? = some o → rs[k]? = some r → OpOk P S ops o r.rt r.ro r.wt r.wo (run (fun i => decide (i < k)) 0 rs s)
  | [], _, _, k, o, r, _, h, _ => by simp at h
  | o :: l, [], _, _, _, _, h, _, _ => h.elim
  | o :: l, q :: rs, s, 0, o', r, ⟨h1, h2⟩, ho, hr => by
    simp at ho hr; subst ho; subst hr
    have e : run (fun i => decide (i < 0)) 0 (q :: rs) s = s := by
      have : ∀ (l : List Rec) (k : Nat) (s : St), run (fun i => decide (i < 0)) k l s = s := by
        intro l
        induction l with
        | nil => intro k s; rfl
        | cons x l ih => intro k s; simp only [run, Nat.not_lt_zero, decide_false, cond_false]; exact ih (k + 1) s
      exact this _ _ _
    rw [e]; exact h1
  | o :: l, q :: rs, s, k + 1, o', r, ⟨h1, h2⟩, ho, hr => by
    have := DRun.at h2 (by simpa using ho) (by simpa using hr)
    have e : run (fun i => decide (i < k + 1)) 0 (q :: rs) s = run (fun i => decide (i < k)) 0 rs (q.app s) := by
      simp only [run]
      have : ∀ (l : List Rec) (a : Nat) (s : St), run (fun i => decide (i < k + 1)) (a + 1) l s = run (fun i => decide (i < k)) a l s := by
        intro l
        induction l with
        | nil => intro a s; rfl
        | cons x l ih =>
          intro a s
          simp only [run]
          rw [ih (a + 1)]
          congr 1
          simp
      rw [this rs 0]
      simp
    rw [e]; exact this

theorem draw_any {l : List Oper} {recs : List Rec} {s0 : St} {Q' : Exit → Act → World → Prop} {G0 : Gh} {w0 : World} (hc : chk l recs = true) (hd : DRun P S l.toArray l recs s0)
    (hQ : ∀ a' w' G', RelSt G' w' a' (run (fun _ => true) 0 recs s0) → Keep S G0 w0 G' w' → Q' .normal a' w') :
    ∀ (fuel : Nat) (listed : Array Bool), listed.size = l.length → fuel = ((List.range l.length).filter fun i => !listed.getD i false).length → Down l (fun i => listed.getD i false) →
      ∀ G w a, RelSt G w a (run (fun i => listed.getD i false) 0 recs s0) → Keep S G0 w0 G w → wpAny P .any l.toArray Q' fuel listed a w := by
  simp only [chk, Bool.and_eq_true] at hc
  obtain ⟨⟨c1, c2⟩, c3⟩ := hc
  have c2' : recs.length = l.length := by simpa using c2
  have hgd : ∀ (listed : Array Bool) (i : Nat), i < listed.size → listed.getD i true = listed.getD i false := fun listed i h => by simp [h]
  intro fuel
  -- if none is ready, all are done
  have hall : ∀ (listed : Array Bool), listed.size = l.length → Region.ready .any l.toArray listed = [] → ∀ i, i < l.length → listed.getD i false = true := by
    intro listed hs hr i
    induction i using Nat.strongRecOn with
    | _ i ih =>
      intro hi
      cases hli : listed.getD i false with
      | true => rfl
      | false =>
        exfalso
        have : i ∈ Region.ready .any l.toArray listed := by
          rw [mem_ready]
          refine ⟨by rw [hgd _ _ (by omega)]; exact hli, l[i], by simp [hi], fun e he hb => ?_⟩
          have := edgesOk_at l 0 i l[i] c1 (List.getElem?_eq_getElem hi) e he hb
          exact ih e.on (by omega) (by omega)
        rw [hr] at this
        cases this
  have hfin : ∀ (listed : Array Bool), listed.size = l.length → Region.ready .any l.toArray listed = [] → ∀ G w a, RelSt G w a (run (fun i => listed.getD i false) 0 recs s0) → Keep S G0 w0 G w → Q' .normal a w := by
    intro listed hs hr G w a h1 h2
    refine hQ a w G ?_ h2
    have e : run (fun i => listed.getD i false) 0 recs s0 = run (fun _ => true) 0 recs s0 := by
      have : ∀ (rs : List Rec) (k : Nat) (s : St), k + rs.length = l.length → run (fun i => listed.getD i false) k rs s = run (fun _ => true) k rs s := by
        intro rs
        induction rs with
        | nil => intro k s _; rfl
        | cons r rs ih =>
          intro k s hk
          simp only [List.length_cons] at hk
          simp only [run]
          rw [ih (k + 1) _ (by omega)]
          have := hall listed hs hr k (by omega)
          rw [this]
      exact this recs 0 s0 (by omega)
    rw [← e]; exact h1
  induction fuel with
  | zero =>
    intro listed hs hf _ G w a h1 h2
    have hr : Region.ready .any l.toArray listed = [] := by
      refine List.eq_nil_iff_forall_not_mem.2 fun j hj => ?_
      obtain ⟨j1, o, j2, _⟩ := mem_ready.1 hj
      have hjl : j < l.length := by simpa using getElem?_lt (by simpa using j2 : l[j]? = some o)
      rw [hgd _ _ (by omega)] at j1
      have hm : j ∈ (List.range l.length).filter fun i => !listed.getD i false := by
        rw [List.mem_filter]; exact ⟨List.mem_range.2 hjl, by rw [j1]; rfl⟩
      rw [List.eq_nil_of_length_eq_zero hf.symm] at hm
      cases hm
    exact ⟨hr, hfin listed hs hr G w a h1 h2⟩
  | succ fuel ih =>
    intro listed hs hf hdn G w a h1 h2
    refine ⟨fun hr => hfin listed hs hr G w a h1 h2, fun i hi => ?_⟩
    obtain ⟨i1, o, i2, i3⟩ := mem_ready.1 hi
    have hil : l[i]? = some o := by simpa using i2
    have hlt : i < l.length := getElem?_lt hil
    rw [hgd _ _ (by omega)] at i1
    obtain ⟨r, hr⟩ : ∃ r, recs[i]? = some r := ⟨_, List.getElem?_eq_getElem (by omega)⟩
    have hop := DRun.at hd hil hr
    -- operations that are not ordered with i touch nothing of it
    have hap : ∀ (k : Nat) (q : Rec), recs[k]? = some q → k ≠ i → (decide (k < i)) ≠ listed.getD k false → apart q r = true ∨ apart r q = true := by
      intro k q hq hne hdif
      have hkl : k < l.length := by
        rw [← c2']
        rcases Nat.lt_or_ge k recs.length with h' | h'
        · exact h'
        · rw [List.getElem?_eq_none h'] at hq; cases hq
      rcases Nat.lt_or_gt_of_ne hne with hlt' | hlt'
      · -- earlier, not done: not ahead of i
        have := chkRow_at (by simpa using chkAll_at c3 i r hr) k q hq (by simpa using hlt')
        rcases this with h | h
        · exfalso
          simp only [Nat.zero_add] at h
          have hnd : listed.getD k false = false := by
            cases hh : listed.getD k false with
            | false => rfl
            | true => rw [hh] at hdif; simp [hlt'] at hdif
          -- i's own predecessors are done
          obtain ⟨acc', a1, a2, a3⟩ := befs_at l [] i o hil
          simp only [List.length_nil, Nat.zero_add] at a1 a2 a3
          rw [List.getD_eq_getElem?_getD, a2] at h
          obtain ⟨e, e1, e2, e3⟩ := mask_bit o acc' k h
          have hDe := i3 e e1 e2
          have hle := edgesOk_at l 0 i o c1 hil e e1 e2
          rcases e3 with e3 | e3
          · rw [e3, hnd] at hDe; cases hDe
          · have := bit_down c1 hdn e.on (by omega) hDe k (by rw [List.getD_eq_getElem?_getD, a3 e.on (by omega), ← List.getD_eq_getElem?_getD]; exact e3)
            rw [hnd] at this; cases this
        · exact .inl h
      · have := chkRow_at (by simpa using chkAll_at c3 k q hq) i r hr (by simpa using hlt')
        rcases this with h | h
        · exfalso
          simp only [Nat.zero_add] at h
          have hdk : listed.getD k false = true := by
            cases hh : listed.getD k false with
            | true => rfl
            | false => rw [hh] at hdif; simp at hdif; omega
          have := bit_down c1 hdn k hkl hdk i h
          rw [i1] at this; cases this
        · exact .inr h
    have hnotin : ∀ (k : Nat) (q : Rec), recs[k]? = some q → (decide (k < i)) ≠ listed.getD k false → (∀ t ∈ r.rt, t ∉ q.wt.map (·.1)) ∧ (∀ t ∈ r.ro, t ∉ q.wo.map (·.1)) := by
      intro k q hq hdif
      by_cases hne : k = i
      · subst hne; rw [i1] at hdif; simp at hdif
      · rcases hap k q hq hne hdif with h | h
        · simp only [apart, Bool.and_eq_true, Bool.not_eq_true'] at h
          exact ⟨fun t ht hm => hits_false h.1.1.1 hm (by simp [ht]), fun t ht hm => hits_false h.1.2 hm (by simp [ht])⟩
        · simp only [apart, Bool.and_eq_true, Bool.not_eq_true'] at h
          exact ⟨fun t ht hm => hits_false h.1.1.2 hm ht, fun t ht hm => hits_false h.2 hm ht⟩
    have hag : Agree r.rt r.ro (run (fun k => decide (k < i)) 0 recs s0) (run (fun k => listed.getD k false) 0 recs s0) := by
      refine ⟨by rw [run_n, run_n], fun t ht => ?_, fun t ht => ?_⟩
      · exact (run_tm t recs 0 s0 s0 rfl (fun k q hq hne => (hnotin k q hq (by simpa using hne)).1 t ht)).symm
      · exact (run_ob t recs 0 s0 s0 rfl (fun k q hq hne => (hnotin k q hq (by simpa using hne)).2 t ht)).symm
    have hstep := hop _ hag G w a h1 (wpAny P .any l.toArray Q' fuel (listed.setIfInBounds i true)) Q' (fun a' w' G' k1 k2 => ?_)
    · unfold wpOp
      rw [i2]
      exact hstep
    · -- the state behind it
      have hnew : run (fun k => (listed.setIfInBounds i true).getD k false) 0 recs s0 = (run (fun k => listed.getD k false) 0 recs s0).upd r.wt r.wo := by
        have hsplit : recs = recs.take i ++ r :: recs.drop (i + 1) := by
          have hi' : i < recs.length := by omega
          rw [List.getElem?_eq_getElem hi'] at hr
          injection hr with hr
          rw [← hr]
          exact (List.take_append_drop i recs).symm.trans (by rw [List.drop_eq_getElem_cons hi'])
        have hsame : ∀ k, k ≠ i → (listed.setIfInBounds i true).getD k false = listed.getD k false := fun k hk => getD_set_ne false (Ne.symm hk)
        have hti : (listed.setIfInBounds i true).getD i false = true := by simp [hs, hlt]
        have hrun : ∀ (rs : List Rec) (k0 : Nat) (s : St), (∀ j, j < rs.length → k0 + j ≠ i) → run (fun k => (listed.setIfInBounds i true).getD k false) k0 rs s = run (fun k => listed.getD k false) k0 rs s := by
          intro rs
          induction rs with
          | nil => intro k0 s _; rfl
          | cons x rs ih' =>
            intro k0 s hk
            simp only [run]
            rw [hsame k0 (by simpa using hk 0 (by simp)), ih' (k0 + 1) _ (fun j hj => by have := hk (j + 1) (by simp; omega); omega)]
        have hlen : (recs.take i).length = i := by simp; omega
        -- later ones that are done don't touch what i writes
        have hcomm : ∀ (rs : List Rec) (k0 : Nat) (s : St), i < k0 → (∀ j q, rs[j]? = some q → recs[k0 + j]? = some q) → run (fun k => listed.getD k false) k0 rs (s.upd r.wt r.wo) = (run (fun k => listed.getD k false) k0 rs s).upd r.wt r.wo := by
          intro rs
          induction rs with
          | nil => intro k0 s _ _; rfl
          | cons x rs ih' =>
            intro k0 s hk hq
            simp only [run]
            cases hdk : listed.getD k0 false with
            | true =>
              simp only [cond_true]
              rw [← ih' (k0 + 1) _ (by omega) (fun j q hj => by have := hq (j + 1) q (by simpa using hj); rwa [show k0 + 1 + j = k0 + (j + 1) by omega])]
              congr 1
              have hxk := hq 0 x rfl
              have ha := hap k0 x (by simpa using hxk) (by omega) (by rw [hdk]; simp; omega)
              have hw : (∀ t, t ∈ x.wt.map (·.1) → t ∉ r.wt.map (·.1)) ∧ (∀ t, t ∈ x.wo.map (·.1) → t ∉ r.wo.map (·.1)) := by
                rcases ha with h | h
                · simp only [apart, Bool.and_eq_true, Bool.not_eq_true'] at h
                  exact ⟨fun t h1 h2 => hits_false h.1.1.1 h1 (List.mem_append_right _ h2), fun t h1 h2 => hits_false h.1.2 h1 (List.mem_append_right _ h2)⟩
                · simp only [apart, Bool.and_eq_true, Bool.not_eq_true'] at h
                  exact ⟨fun t h1 h2 => hits_false h.1.1.1 h2 (List.mem_append_right _ h1), fun t h1 h2 => hits_false h.1.2 h2 (List.mem_append_right _ h1)⟩
              unfold Rec.app St.upd
              simp only [St.mk.injEq, true_and]
              refine ⟨funext fun t => ?_, funext fun t => ?_⟩
              · by_cases hm : t ∈ x.wt.map (·.1)
                · rw [lk_none (hw.1 t hm)]; cases lk x.wt t <;> rfl
                · rw [lk_none hm]; cases lk r.wt t <;> rfl
              · by_cases hm : t ∈ x.wo.map (·.1)
                · rw [lk_none (hw.2 t hm)]; cases lk x.wo t <;> rfl
                · rw [lk_none hm]; cases lk r.wo t <;> rfl
            | false =>
              simp only [cond_false]
              exact ih' (k0 + 1) _ (by omega) (fun j q hj => by have := hq (j + 1) q (by simpa using hj); rwa [show k0 + 1 + j = k0 + (j + 1) by omega])
        conv => lhs; rw [hsplit]
        conv => rhs; rw [hsplit]
        rw [run_cat, run_cat, hlen]
        simp only [run, Nat.zero_add]
        rw [hti, i1, hrun (recs.take i) 0 s0 (fun j hj => by rw [hlen] at hj; omega)]
        simp only [cond_true, cond_false]
        rw [hrun (recs.drop (i + 1)) (i + 1) _ (fun j _ => by omega)]
        exact hcomm _ _ _ (by omega) (fun j q hj => by rw [List.getElem?_drop] at hj; exact hj)
      refine ih (listed.setIfInBounds i true) (by simp [hs]) ?_ ?_ G' w' a' (by rw [hnew]; exact k1) (h2.trans k2)
      · -- one fewer to go
        have hcount : ∀ n, ((List.range n).filter fun k => !listed.getD k false).length = ((List.range n).filter fun k => !(listed.setIfInBounds i true).getD k false).length + (if i < n then 1 else 0) := by
          intro n
          induction n with
          | zero => simp
          | succ n ihn =>
            rw [List.range_succ, List.filter_append, List.filter_append, List.length_append, List.length_append, ihn]
            by_cases hni : n = i
            · subst hni
              have e1 : (listed.setIfInBounds n true).getD n false = true := by simp [hs, hlt]
              simp only [if_neg (show ¬ n < n by omega), if_pos (show n < n + 1 by omega), List.filter_cons, List.filter_nil, i1, e1]
              simp
            · have e1 : (listed.setIfInBounds i true).getD n false = listed.getD n false := getD_set_ne false (Ne.symm hni)
              simp only [List.filter_cons, List.filter_nil, e1]
              by_cases hlt2 : i < n
              · simp only [if_pos hlt2, if_pos (show i < n + 1 by omega)]; omega
              · simp only [if_neg hlt2, if_neg (show ¬ i < n + 1 by omega)]; omega
        have := hcount l.length
        rw [if_pos hlt, ← hf] at this
        omega
      · intro j oj hj hDj e he hb
        by_cases hji : j = i
        · subst hji
          rw [hil] at hj
          injection hj with hj
          subst hj
          exact getD_set_true (i3 e he hb)
        · simp only at hDj
          rw [getD_set_ne false (Ne.symm hji)] at hDj
          exact getD_set_true (hdn j oj hj hDj e he hb)

theorem awp_draw {id : Nat} {l : List Oper} {recs : List Rec} {Q : Exit → St → Prop} (mixed : P.follows .mixedOrders = true) (hc : chk l recs = true) (hd : DRun P S l.toArray l recs st) (hQ : Q .normal (run (fun _ => true) 0 recs st)) :
    awp P S (.region id l.toArray true) Q st := fun G w a hr => by
  refine wp_region_any mixed ?_
  have hk0 : Keep S G w G { w with drawn := w.drawn + 1 } := Keep.drew S G w
  have hz : ∀ i, (Array.replicate l.length false).getD i false = false := fun i => by
    simp only [Array.getD_eq_getD_getElem?, Array.getElem?_replicate]
    split <;> rfl
  have hrun0 : ∀ (rs : List Rec) (k : Nat) (s : St), run (fun i => (Array.replicate l.length false).getD i false) k rs s = s := by
    intro rs
    induction rs with
    | nil => intro k s; rfl
    | cons x rs ih => intro k s; simp only [run]; rw [hz k]; exact ih (k + 1) s
  have := draw_any (P := P) (S := S) (Q' := fun e a' w' => ∃ st' G', RelSt G' w' a' st' ∧ Keep S G w G' w' ∧ Q e st') (G0 := G) (w0 := w) hc hd (fun a' w' G' h1 h2 => ⟨_, G', h1, h2, hQ⟩)
    l.length (Array.replicate l.length false) (by simp) (by
      have : ((List.range l.length).filter fun i => !(Array.replicate l.length false).getD i false) = List.range l.length := by
        refine List.filter_eq_self.2 fun i _ => by rw [hz i]; rfl
      rw [this]; simp) (fun j o _ h => by simp only at h; rw [hz j] at h; cases h) G { w with drawn := w.drawn + 1 } a (by rw [hrun0]; exact hr.drew) hk0
  simpa using this

/-! ### Step by step -/
/-- Some operations are behind us (the last one first). -/
def DR (P : Program) (S : Nat → Prop) (id : Nat) (ops : List Oper) (s0 : St) (done : List Rec) (l : List Oper) (Q : Exit → St → Prop) (s : St) : Prop :=
  (∀ rs, DRun P S ops.toArray l rs s → DRun P S ops.toArray ops (done.reverse ++ rs) s0 ∧ run (fun _ => true) 0 (done.reverse ++ rs) s0 = run (fun _ => true) 0 rs s) → awp P S (.region id ops.toArray true) Q s0
theorem dr_start {id : Nat} {l : List Oper} {Q : Exit → St → Prop} (h : DR P S id l st [] l Q st) : awp P S (.region id l.toArray true) Q st := h fun rs hrs => ⟨by simpa using hrs, by simp⟩
theorem run_true_shift : ∀ (rs : List Rec) (k k' : Nat) (s : St), run (fun _ => true) k rs s = run (fun _ => true) k' rs s
  | [], _, _, _ => rfl
  | x :: rs, k, k', s => by simp only [run]; exact run_true_shift rs _ _ _
theorem dr_cons {id : Nat} {all l : List Oper} {o : Oper} {s0 s : St} {done : List Rec} {Q : Exit → St → Prop} {rt ro wt wo} (h : OpOk P S all.toArray o rt ro wt wo s) (k : DR P S id all s0 (⟨rt, ro, wt, wo⟩ :: done) l Q (s.upd wt wo)) : DR P S id all s0 done (o :: l) Q s := fun hd => by
  refine k fun rs hrs => ?_
  obtain ⟨h1, h2⟩ := hd (⟨rt, ro, wt, wo⟩ :: rs) ⟨h, hrs⟩
  refine ⟨by simpa using h1, ?_⟩
  have e : (⟨rt, ro, wt, wo⟩ :: done : List Rec).reverse ++ rs = done.reverse ++ ⟨rt, ro, wt, wo⟩ :: rs := by simp
  rw [e, h2]
  simp only [run, cond_true]
  exact run_true_shift _ _ _ _
theorem dr_nil {id : Nat} {all : List Oper} {s0 s : St} {done : List Rec} {Q : Exit → St → Prop} (mixed : P.follows .mixedOrders = true) (hc : chk all done.reverse = true) (hQ : Q .normal s) : DR P S id all s0 done [] Q s := fun hd => by
  obtain ⟨h1, h2⟩ := hd [] trivial
  simp only [List.append_nil] at h1 h2
  exact awp_draw mixed hc h1 (by rw [h2]; exact hQ)
theorem dr_lit {id : Nat} {all l : List Oper} {s0 s : St} {done : List Rec} {Q : Exit → St → Prop} {t : Nat} {b : Bool} (ht : s.tm t = some (.v b)) (h : DR P S id all s0 done l Q s) : DR P S id all s0 done l Q s := h
theorem dr_ulit {id : Nat} {all l : List Oper} {s0 s : St} {done : List Rec} {Q : Exit → St → Prop} {t : Nat} (ht : s.tm t = some .und) (h : DR P S id all s0 done l Q s) : DR P S id all s0 done l Q s := h
theorem upd_same {s : St} {t : Nat} {c b : Bool} (ht : s.tm t = some (.v c)) (hc : c = b) : s.upd [(t, some (.v b))] [] = s := by
  subst hc
  unfold St.upd
  congr 1
  funext q
  simp only [lk]
  by_cases e : q = t
  · subst e; rw [if_pos rfl]; exact ht.symm
  · rw [if_neg e]; rfl
theorem dr_split {id : Nat} {all l : List Oper} {s0 s : St} {done : List Rec} {Q : Exit → St → Prop} {t : Nat} {c : Bool} (ht : s.tm t = some (.v c)) (h1 : c = true → DR P S id all s0 done l Q (s.upd [(t, some (.v true))] [])) (h2 : c = false → DR P S id all s0 done l Q (s.upd [(t, some (.v false))] [])) : DR P S id all s0 done l Q s := by
  cases hc : c with
  | true => have := h1 hc; rwa [upd_same ht hc] at this
  | false => have := h2 hc; rwa [upd_same ht hc] at this
end Go.Wt

/- Parts of rows; rows that are nothing; records that are the same; functions as values; results that take their room along. -/
set_option linter.unusedVariables false
set_option linter.unusedSimpArgs false
namespace Go.Wt
open Go

variable {P : Program} {S : Nat → Prop} {ops : Array Oper} {st : St}
section ops
variable {d : Nat} {T pos aft} {x y z : Operand}

/-! ### Parts of a row -/
theorem Elems.part {α : Type} [Enc α] {G w a} {xs : List α} (h : Elems G w a xs) (l k m : Nat) (hm : m = l → k = 0) :
    Elems G w (if m = l then a else a.map (·.add (l * Enc.size α))) ((xs.drop l).take k) := by
  by_cases hl : m = l
  · left; rw [hm hl]; simp
  · rw [if_neg hl]
    rcases h with h | ⟨b, off, rfl, hB, h⟩
    · left; rw [h]; simp
    · refine .inr ⟨b, off + l * Enc.size α, by simp [add_lit], by simp; omega, fun i x hx => ?_⟩
      have hx' : xs[l + i]? = some x := by
        rw [List.getElem?_take] at hx
        split at hx
        · simpa using hx
        · cases hx
      obtain ⟨c, c1, c2⟩ := h _ x hx'
      refine ⟨c, c1, fun j v hj => ?_⟩
      have := c2 j v hj
      rw [Nat.add_mul] at this
      rw [show off + l * Enc.size α + i * Enc.size α + j = off + (l * Enc.size α + i * Enc.size α) + j by omega]
      exact this
theorem SlOk.elem {t E bytes : TypeId} {α : Type} [Enc α] (sl : SlOk P t E bytes α) : P.underlying t = some (.slice (P.elem t)) ∧ P.elem t = E := by
  have h := sl.spec.1
  have : P.elem t = E := by simp [Program.elem, h]
  exact ⟨by rw [this]; exact h, this⟩
theorem slice_core {t E bytes : TypeId} {α : Type} [Enc α] [Plain α] {G w ω} {a : Option Addr} {xs : List α} {cap l h m : Nat} (he : Elems G w a xs) (h1 : l ≤ h) (h2 : h ≤ xs.length) (h3 : h ≤ m) :
    RelV G w ω (.v ((xs.drop l).take (h - l))) (sliced a l h m (Enc.size α)) := by
  refine ⟨[sliced a l h m (Enc.size α)], ⟨_, m - l, ?_, ?_, he.part l (h - l) m (fun e => by omega)⟩, by simp [Enc.val, Enc.agg]⟩
  · simp only [sliced]
    congr 2
    simp; omega
  · simp; omega
theorem op_slh {E bytes t : TypeId} {α : Type} [Enc α] [Plain α] {av : AV} {xs : List α} {h : Int} [hsrc : Src α av xs] (sl : SlOk P t E bytes α) (hx : st.ev x = some av) (hz : st.ev z = some (.v h)) (hn : Nat.blt d st.n = true) (hb : 0 ≤ h ∧ h.toNat ≤ xs.length) :
    OpOk P S ops ⟨some d, .slice t x none (some z) none, T, pos, aft, none⟩ (opT x ++ opT z) [] [(d, some (.v (xs.take h.toNat)))] [] st :=
  OpOk.value rfl rfl (by simpa using hn) fun st1 hag G w a hr => by
    obtain ⟨ad, cap, h1, h2, h3⟩ := hsrc.rel (hr.at hag hx fun t ht => by simp [ht])
    have e2 := RelV.int (hr.at hag hz fun t ht => by simp [ht])
    obtain ⟨k1, k2⟩ := sl.elem
    refine ⟨sliced ad 0 h.toNat cap (Enc.size α), ?_, by simpa using slice_core (ω := (.tmp d, [])) (l := 0) (t := t) (E := E) (bytes := bytes) (cap := cap) h3 (Nat.zero_le _) hb.2 (by omega : h.toNat ≤ cap)⟩
    simp only [execOp, h1, e2, Option.map_none, Option.map_some, Sem.run_bind, run_sliceAt_slice _ _ _ _ _ _ k1, run_slice_h w t ad xs.length cap k1 .i64 h hb.1 (by omega), k2, sl.el.size, Result.andThen_ok, Sem.run_pure]
theorem op_sll {E bytes t : TypeId} {α : Type} [Enc α] [Plain α] {av : AV} {xs : List α} {l : Int} [hsrc : Src α av xs] (sl : SlOk P t E bytes α) (hx : st.ev x = some av) (hy : st.ev y = some (.v l)) (hn : Nat.blt d st.n = true) (hb : 0 ≤ l ∧ l.toNat ≤ xs.length) :
    OpOk P S ops ⟨some d, .slice t x (some y) none none, T, pos, aft, none⟩ (opT x ++ opT y) [] [(d, some (.v (xs.drop l.toNat)))] [] st :=
  OpOk.value rfl rfl (by simpa using hn) fun st1 hag G w a hr => by
    obtain ⟨ad, cap, h1, h2, h3⟩ := hsrc.rel (hr.at hag hx fun t ht => by simp [ht])
    have e2 := RelV.int (hr.at hag hy fun t ht => by simp [ht])
    obtain ⟨k1, k2⟩ := sl.elem
    have e3 : (xs.drop l.toNat).take (xs.length - l.toNat) = xs.drop l.toNat := by rw [List.take_of_length_le (by simp)]
    refine ⟨sliced ad l.toNat xs.length cap (Enc.size α), ?_, by rw [← e3]; exact slice_core (ω := (.tmp d, [])) (l := l.toNat) (t := t) (E := E) (bytes := bytes) (cap := cap) h3 hb.2 (Nat.le_refl _) h2⟩
    simp only [execOp, h1, e2, Option.map_none, Option.map_some, Sem.run_bind, run_sliceAt_slice _ _ _ _ _ _ k1, run_slice_l w t ad xs.length cap k1 .i64 l hb.1 (by omega), k2, sl.el.size, Result.andThen_ok, Sem.run_pure]
theorem op_sllh {E bytes t : TypeId} {α : Type} [Enc α] [Plain α] {av : AV} {xs : List α} {l h : Int} [hsrc : Src α av xs] (sl : SlOk P t E bytes α) (hx : st.ev x = some av) (hy : st.ev y = some (.v l)) (hz : st.ev z = some (.v h)) (hn : Nat.blt d st.n = true) (hb : 0 ≤ l ∧ l ≤ h ∧ h.toNat ≤ xs.length) :
    OpOk P S ops ⟨some d, .slice t x (some y) (some z) none, T, pos, aft, none⟩ (opT x ++ opT y ++ opT z) [] [(d, some (.v ((xs.drop l.toNat).take (h.toNat - l.toNat))))] [] st :=
  OpOk.value rfl rfl (by simpa using hn) fun st1 hag G w a hr => by
    obtain ⟨ad, cap, h1, h2, h3⟩ := hsrc.rel (hr.at hag hx fun t ht => by simp [ht])
    have e2 := RelV.int (hr.at hag hy fun t ht => by simp [ht])
    have e4 := RelV.int (hr.at hag hz fun t ht => by simp [ht])
    obtain ⟨k1, k2⟩ := sl.elem
    refine ⟨sliced ad l.toNat h.toNat cap (Enc.size α), ?_, slice_core (ω := (.tmp d, [])) (l := l.toNat) (t := t) (E := E) (bytes := bytes) (cap := cap) h3 (by omega) hb.2.2 (by omega)⟩
    simp only [execOp, h1, e2, e4, Option.map_none, Option.map_some, Sem.run_bind, run_sliceAt_slice _ _ _ _ _ _ k1, run_slice_lh w t ad xs.length cap k1 .i64 .i64 l h hb.1 hb.2.1 (by omega), k2, sl.el.size, Result.andThen_ok, Sem.run_pure]
theorem op_slhm {E bytes t : TypeId} {α : Type} [Enc α] [Plain α] {av : AV} {xs : List α} {h m : Int} {u : Operand} [hsrc : Src α av xs] (sl : SlOk P t E bytes α) (hx : st.ev x = some av) (hz : st.ev z = some (.v h)) (hu : st.ev u = some (.v m)) (hn : Nat.blt d st.n = true) (hb : 0 ≤ h ∧ h = m ∧ h.toNat ≤ xs.length) :
    OpOk P S ops ⟨some d, .slice t x none (some z) (some u), T, pos, aft, none⟩ (opT x ++ opT z ++ opT u) [] [(d, some (.v (CList.mk (xs.take h.toNat))))] [] st :=
  OpOk.value rfl rfl (by simpa using hn) fun st1 hag G w a hr => by
    obtain ⟨ad, cap, h1, h2, h3⟩ := hsrc.rel (hr.at hag hx fun t ht => by simp [ht])
    have e2 := RelV.int (hr.at hag hz fun t ht => by simp [ht])
    have e4 := RelV.int (hr.at hag hu fun t ht => by simp [ht])
    obtain ⟨k1, k2⟩ := sl.elem
    obtain ⟨b1, rfl, b3⟩ := hb
    have hp := h3.part 0 (h.toNat - 0) h.toNat (fun e => by omega)
    simp only [List.drop_zero, Nat.sub_zero] at hp
    refine ⟨sliced ad 0 h.toNat h.toNat (Enc.size α), ?_, [sliced ad 0 h.toNat h.toNat (Enc.size α)], ⟨_, ?_, hp⟩, by simp [Enc.val, Enc.agg]⟩
    · simp only [execOp, h1, e2, e4, Option.map_none, Option.map_some, Sem.run_bind, run_sliceAt_slice _ _ _ _ _ _ k1, run_slice_hm w t ad xs.length cap k1 .i64 .i64 h h b1 (by omega) (by omega), k2, sl.el.size, Result.andThen_ok, Sem.run_pure]
    · simp only [sliced]
      congr 2 <;> simp <;> omega

/-! ### No row is too long -/
theorem Elems.big {α : Type} [Enc α] {G w a} {xs : List α} (h : Elems G w a xs) : xs.length ≤ 4611686018427387904 := by
  rcases h with rfl | ⟨_, _, _, h, _⟩
  · simp
  · exact h
theorem awp_big {α : Type} [Enc α] {t : Nat} {av : AV} {xs : List α} [hsrc : Src α av xs] {c : Code} {Q : Exit → St → Prop} (hx : st.tm t = some av) (k : xs.length ≤ 4611686018427387904 → awp P S c Q st) : awp P S c Q st := fun G w a hr => by
  obtain ⟨ad, cap, h1, h2, h3⟩ := hsrc.rel (hr.at (x := .tmp t) (Agree.refl [t] [] st) hx fun t ht => ht)
  exact k h3.big G w a hr
theorem awpOps_big {α : Type} [Enc α] {t : Nat} {av : AV} {xs : List α} [hsrc : Src α av xs] {l : List Oper} {Q : St → Prop} (hx : st.tm t = some av) (k : xs.length ≤ 4611686018427387904 → awpOps P S ops l Q st) : awpOps P S ops l Q st := fun G w a hr Q' hQ => by
  obtain ⟨ad, cap, h1, h2, h3⟩ := hsrc.rel (hr.at (x := .tmp t) (Agree.refl [t] [] st) hx fun t ht => ht)
  exact k h3.big G w a hr Q' hQ
theorem awp_bigL {α : Type} [Enc α] [Plain α] {xs : List α} {c : Code} {Q : Exit → St → Prop} (t : Nat) (hx : st.tm t = some (.v xs)) (k : xs.length ≤ 4611686018427387904 → awp P S c Q st) : awp P S c Q st := awp_big hx k
theorem awpOps_bigL {α : Type} [Enc α] [Plain α] {xs : List α} {l : List Oper} {Q : St → Prop} (t : Nat) (hx : st.tm t = some (.v xs)) (k : xs.length ≤ 4611686018427387904 → awpOps P S ops l Q st) : awpOps P S ops l Q st := awpOps_big hx k
/-! ### Is a row nothing? -/
theorem binOp_eql_slice (t : TypeId) (a : Option Addr) (n c : Nat) : binOp .eql t (.slice a n c) (.slice none 0 0) = (do pure (.bool (← Op.equal t (.slice a n c) (.slice none 0 0)))) := by
  unfold binOp; rfl
theorem awpOps_nil? {E bytes t t' : TypeId} {α : Type} [Enc α] {av : AV} {xs : List α} {l : List Oper} {Q : St → Prop} [hsrc : Src α av xs] (sl : SlOk P t E bytes α) (hx : st.ev x = some av) (hn : Nat.blt d st.n = true)
    (hk : ∀ b : Bool, (b = true → xs = []) → awpOps P S ops l Q (st.upd [(d, some (.v b))] [])) :
    awpOps P S ops (⟨some d, .binOp .eql t x (.const (.slice none 0 0)) t', T, pos, aft, none⟩ :: l) Q st := by
  intro G w a hr Q' hQ
  obtain ⟨ad, cap, h1, h2, h3⟩ := hsrc.rel (hr.at (Agree.refl (opT x) [] st) hx fun t ht => ht)
  have hb : (ad.isNone = true → xs = []) := by
    intro e
    rcases h3 with h3 | ⟨b, off, h3, _⟩
    · exact h3
    · rw [h3] at e; cases e
  refine stepO_cons ?_
  unfold stepO
  rw [if_pos (by simp [Region.wanted])]
  refine .inl ?_
  unfold Oper.wp
  have hrun : (execOp a.eval ⟨some d, .binOp .eql t x (.const (.slice none 0 0)) t', T, pos, aft, none⟩).run P w = .ok (.value (.bool ad.isNone)) w := by
    have hu := sl.spec.1
    have e0 : a.eval (.const (.slice none 0 0)) = .slice none 0 0 := rfl
    have eg : (eqGuard .eql t x (.const (.slice none 0 0)) (.slice ad xs.length cap) (.slice none 0 0)).run P w = .ok () w := by simp [eqGuard]
    have eb : (binOp .eql t (.slice ad xs.length cap) (.slice none 0 0)).run P w = .ok (.bool ad.isNone) w := by
      rw [binOp_eql_slice]
      simp only [Sem.run_bind, run_equal_slice_nil w t E ad xs.length cap hu, Result.andThen_ok, Sem.run_pure]
    simp only [execOp, h1, e0, Sem.run_bind, eg, Result.andThen_ok, eb, Sem.run_pure]
  rw [hrun]
  simp only [Oper.upon]
  have hrb : RelV G w (.tmp d, []) (.v ad.isNone) (.bool ad.isNone) := relBool _ _ _ _
  exact hk ad.isNone hb G w _ (hr.put (av := some (.v ad.isNone)) (by simpa using hn) hrb) Q' hQ

/-! ### Records that are the same -/
structure EqOk (P : Program) (T : TypeId) (α : Type) [Enc α] [DecidableEq α] : Prop where
  agg : Enc.agg α = true
  guard : P.eqGuardType P.depth T = false
  run : ∀ (G G' : Gh) (w : World) (ω ω' : Owner) (x y : α) (cs ds : List Value), Enc.rd G w ω x cs → Enc.rd G' w ω' y ds → (Op.equalIn 10000 T (.agg cs.toArray) (.agg ds.toArray)).run P w = .ok (decide (x = y)) w
theorem op_eqa {t t' : TypeId} {α : Type} [Enc α] [DecidableEq α] {p q : α} (h : EqOk P t α) (hx : st.ev x = some (.v p)) (hy : st.ev y = some (.v q)) (hn : Nat.blt d st.n = true) :
    OpOk P S ops ⟨some d, .binOp .eql t x y t', T, pos, aft, none⟩ (opT x ++ opT y) [] [(d, some (.v (decide (p = q))))] [] st :=
  bin_value hn fun st1 hag G w a hr => by
    obtain ⟨cs, c1, c2⟩ := hr.at hag hx fun t ht => by simp [ht]
    obtain ⟨ds, d1, d2⟩ := hr.at hag hy fun t ht => by simp [ht]
    have e1 : Enc.val α cs = .agg cs.toArray := by simp [Enc.val, h.agg]
    have e2 : Enc.val α ds = .agg ds.toArray := by simp [Enc.val, h.agg]
    refine ⟨.bool (decide (p = q)), by rw [c2, d2, e1, e2, run_eql_struct, h.run G G w _ _ p q cs ds c1 d1]; rfl, by rw [c2, d2, e1, e2]; exact run_eqGuard_agg w _ _ _ _ _ _ h.guard, relBool _ _ _ _⟩
theorem op_nea {t t' : TypeId} {α : Type} [Enc α] [DecidableEq α] {p q : α} (h : EqOk P t α) (hx : st.ev x = some (.v p)) (hy : st.ev y = some (.v q)) (hn : Nat.blt d st.n = true) :
    OpOk P S ops ⟨some d, .binOp .neq t x y t', T, pos, aft, none⟩ (opT x ++ opT y) [] [(d, some (.v (!decide (p = q))))] [] st :=
  bin_value hn fun st1 hag G w a hr => by
    obtain ⟨cs, c1, c2⟩ := hr.at hag hx fun t ht => by simp [ht]
    obtain ⟨ds, d1, d2⟩ := hr.at hag hy fun t ht => by simp [ht]
    have e1 : Enc.val α cs = .agg cs.toArray := by simp [Enc.val, h.agg]
    have e2 : Enc.val α ds = .agg ds.toArray := by simp [Enc.val, h.agg]
    refine ⟨.bool (!decide (p = q)), by rw [c2, d2, e1, e2, run_neq_struct, h.run G G w _ _ p q cs ds c1 d1]; rfl, by rw [c2, d2, e1, e2]; exact run_eqGuard_agg w _ _ _ _ _ _ h.guard, relBool _ _ _ _⟩

/-! ### Functions as values -/
/-- What a function value holds. -/
inductive Holds (st : St) : List Operand → List FV → List Nat → Prop
  | nil : Holds st [] [] []
  | cons {x : Operand} {xs : List Operand} {av : AV} {r : FV} {rs : List FV} {rt : List Nat} (hx : st.ev x = some av) (hc : Conv av r.av) (h : Holds st xs rs rt) : Holds st (x :: xs) (r :: rs) (opT x ++ rt)
theorem Holds.rel {G w a st1 rt0 ro} (hr : RelSt G w a st1) (hg : Agree rt0 ro st st1) {ω : Owner} : ∀ {k : Nat} {xs : List Operand} {rs : List FV} {rt : List Nat}, Holds st xs rs rt → (∀ t ∈ rt, t ∈ rt0) → RelFs G w ω k rs (xs.map a.eval)
  | _, _, _, _, .nil, _ => rfl
  | k, _, _, _, .cons (r := r) hx hc h, hs => ⟨_, _, rfl, by
      have := hc (ω' := Owner.sub ω [k]) (hr.at hg hx fun t ht => hs _ (List.mem_append_left _ ht))
      cases r with
      | v x => exact this
      | box o L => exact this, Holds.rel hr hg h (fun t ht => hs _ (List.mem_append_right _ ht))⟩
theorem op_mf {f : FuncId} {as cs : List Operand} {fa fc : List FV} {r1 r2 : List Nat} (ha : Holds st as fa r1) (hc : Holds st cs fc r2) (hn : Nat.blt d st.n = true) :
    OpOk P S ops ⟨some d, .makeFunc (.func f) as.toArray cs.toArray, T, pos, aft, none⟩ (r1 ++ r2) [] [(d, some (.fn f fa fc))] [] st :=
  OpOk.value rfl rfl (by simpa using hn) fun st1 hag G w a hr =>
    ⟨.func (.func f) (as.map a.eval).toArray (cs.map a.eval).toArray, by simp [execOp, Instr.makeFunc], _, _, rfl, ha.rel hr hag (fun t ht => by simp [ht]), hc.rel hr hag (fun t ht => by simp [ht])⟩
end ops

/-! ### Objects that are kept, unnamed -/
def mkStH (n : Nat) (tl : List (Nat × AV)) (h : Nat → Obj) : St := ⟨n, lk0 tl, h⟩
theorem Le.mkH {tl : List (Nat × AV)} {h : Nat → Obj} {n : Nat} (hn : st.n = n) (h1 : TL st (fun _ => true) tl) (h2 : st.ob = h) : Le S st (mkStH n tl h) := fun G w a hr => by
  refine ⟨G, ⟨hr.defers, hr.size.trans hn, fun t => ?_, fun o => ?_⟩, Keep.refl _ _ _⟩
  · show RelT _ _ _ (lk0 tl t) _
    cases ht : lk0 tl t with
    | none => trivial
    | some av =>
      obtain ⟨⟨av0, k1, k2⟩, k3⟩ := h1.get t av ht
      have := hr.tmps t
      rw [k1] at this
      rcases k2 with rfl | k2
      · exact this
      · exact k2 (ω' := (.tmp t, [])) this
  · show RelO _ _ o (h o)
    rw [← h2]; exact hr.objs o
theorem tlh {t : Nat} {av0 av : AV} {r : List (Nat × AV)} (h : st.tm t = some av0) (he : av0 = av) (k : TL st (fun _ => true) r) : TL st (fun _ => true) ((t, av) :: r) := ⟨⟨⟨av0, h, .inl he⟩, fun _ _ => rfl⟩, k⟩
theorem res1H {rv : ResultVar} {r : FV} (h : ROk P st rv r) : ResOk P S #[rv] r.av st.ob st := fun fn hfn G w a hrs => by
  obtain ⟨u, u1, u2⟩ := h.run hrs (.ret, [])
  refine ⟨G, u, ?_, ?_, hrs.objs, Keep.refl _ _ _⟩
  · simp only [results_rv, hfn, List.mapM_toArray, List.mapM_cons, List.mapM_nil, Sem.run_bind, Sem.run_map, Sem.run_pure, Result.andThen_ok, bind_pure_comp, map_pure, u1]
    simp
  · cases r with
    | v x => exact u2
    | box o L => exact u2
theorem finH {rv : ResultVar} {r : FV} {r' : AV} {h : Nat → Obj} (k : ROk P st rv r) (he : r.av = r') (ho : st.ob = h) : ∃ r1 h1, ResOk P S #[rv] r1 h1 st ∧ r1 = r' ∧ h1 = h :=
  ⟨_, _, res1H k, he, ho⟩

/-! ### A result that takes its room along -/
theorem res1M {t : Nat} {av : AV} {ol : List (Nat × Obj)} (hx : st.tm t = some av) (hr : ∀ o ∈ av.refs, keys ol o = true) (h2 : OL st (keys ol) ol) (hS : ∀ o, S o → keys ol o = true) :
    ResOk P S #[.tmp t] av (obs ol) st := fun fn hfn G w a hrs => by
  have hv := hrs.tmps t
  rw [hx] at hv
  refine ⟨(G.mv (.tmp t, []) (.ret, [])).fg (keys ol), a.tmps.getD t undef, ?_, ?_, fun o => ?_, (Keep.mv S (by simp) (by simp)).trans (Keep.fg hS)⟩
  · simp only [results_rv, hfn, List.mapM_toArray, List.mapM_cons, List.mapM_nil, rvRun, Sem.run_bind, Sem.run_map, Sem.run_pure, Result.andThen_ok, bind_pure_comp, map_pure]
    simp
  · exact RelV.mono (ω := (.ret, [])) (Sh.fg _) (Ow.fg _ _ _) (Hm.fg hr) (RelV.mono (Sh.mv (s := (.tmp t, [])) (d := (.ret, []))) Ow.mv_src (fun _ _ _ h => h) hv)
  · have hrs' : RelSt (G.mv (.tmp t, []) (.ret, [])) w a (st.upd [(t, some av.dis)] []) := by
      refine ⟨hrs.defers, hrs.size, fun t' => ?_, fun o => ?_⟩
      · show RelT _ _ _ (orr (lk [(t, some av.dis)] t') (st.tm t')) _
        simp only [lk]
        by_cases e : t' = t
        · subst e; rw [if_pos rfl]; simp only [orr]; exact RelV.mono_dis Sh.mv (fun _ _ _ h => h) hv
        · rw [if_neg e]; simp only [orr]; exact (hrs.tmps t').mono Sh.mv (Ow.mv_other (by simpa using e) (by simp)) (fun _ _ _ h => h)
      · obtain ⟨T', hT⟩ := Obj.refs_all (st.ob o)
        exact (hrs.objs o).pres Sh.mv (fun _ _ _ h => h) hT (PresO.mv (by simp) (by simp) (by simp) (by simp))
    have h2' : OL (st.upd [(t, some av.dis)] []) (keys ol) ol := by
      have key : ∀ l, OL st (keys ol) l → OL (st.upd [(t, some av.dis)] []) (keys ol) l := by
        intro l
        induction l with
        | nil => intro _; trivial
        | cons x l ih => rintro ⟨k1, k2⟩; exact ⟨k1, ih k2⟩
      exact key ol h2
    exact objs_fg hrs' h2' o
theorem finM {t : Nat} {av r' : AV} (h : st.tm t = some av) (hr : av.refs = []) (he : av = r') : ∃ r1 h1, ResOk P (fun o => noObj o ≠ .free) #[.tmp t] r1 h1 st ∧ r1 = r' ∧ h1 = noObj :=
  ⟨_, _, res1M (ol := []) h (by rw [hr]; intro o ho; cases ho) trivial noS, he, rfl⟩
end Go.Wt
namespace Go.Wt
open Go
variable {P : Program} {S : Nat → Prop} {ops : Array Oper} {st : St}
/-! ### Calls that keep unnamed objects -/
def isFree : Obj → Bool
  | .free => true
  | _ => false
def pH (h : Nat → Obj) (o : Nat) : Bool := !isFree (h o)
theorem isFree_eq {x : Obj} (h : isFree x = true) : x = .free := by cases x <;> first | rfl | cases h
theorem pass_pH (h : Nat → Obj) : pass (pH h) h = h := by
  funext o
  unfold pass pH
  cases hx : isFree (h o) with
  | true => simp [isFree_eq hx]
  | false => simp
/-- What may be handed: it owns nothing, and names only these. -/
def Hand (h : Nat → Obj) (z : AV) : Prop := z.dis = z ∧ ∀ o ∈ z.refs, pH h o = true
theorem Hand.of {h : Nat → Obj} {z : AV} (h1 : z.dis = z) (h2 : z.refs = []) : Hand h z := ⟨h1, by rw [h2]; intro o ho; cases ho⟩
section
variable {d : Nat} {T pos aft} {x y z : Operand}
theorem awpOps_callH {f : FuncId} {xs : List Operand} {av : List AV} {fa fc : List FV} {ts : Array TypeId} {rt : List Nat} {l : List Oper} {Q : St → Prop} {h : Nat → Obj} {r : AV}
    (hfun : st.ev x = some (.fn f fa fc)) (hB : fnB P f = true) (ha : Args st 0 xs av rt) (ho : st.ob = h) (hct : Ct P f (avs fa ++ av ++ avs fc) h (fun r1 h1 => r1 = r ∧ h1 = h))
    (hdis : ∀ z ∈ avs fa ++ av ++ avs fc, Hand h z) (hH : ∀ o, obOk (pH h) (h o)) (hrr : r.refs = []) (hn : Nat.blt d st.n = true) (k : awpOps P S ops l Q (st.upd [(d, some r)] [])) :
    awpOps P S ops (⟨some d, .call { callee := .value x, args := xs.toArray, argTypes := ts }, T, pos, aft, none⟩ :: l) Q st := by
  subst ho
  refine awpOps_call (pH st.ob) (pH st.ob) hfun hB ha (by rw [pass_pH]; exact hct) hdis (fun o _ => hH o) hn (fun _ h => h) (fun o h1 h2 => by rw [h1] at h2; cases h2) ?_
  rintro r1 h1 ⟨rfl, rfl⟩
  refine ⟨fun o ho => isFree_eq (by simpa [pH] using ho), (by rw [hrr]; intro o ho; cases ho), hH, ?_⟩
  have e : (⟨st.n, fun t => if t = d then some r1 else st.tm t, merge (pH st.ob) st.ob st.ob⟩ : St) = st.upd [(d, some r1)] [] := by
    unfold St.upd merge
    congr 1
    · funext t
      simp only [lk]
      by_cases e : t = d <;> simp [e, orr]
    · funext o; simp [lk, orr]
  rw [e]; exact k
end
end Go.Wt
namespace Go.Wt
open Go
theorem FV.av_dis (r : FV) : r.dis.av = r.av.dis := by cases r <;> rfl
theorem FV.av_refs (r : FV) : r.av.refs = r.refs := by cases r <;> rfl
theorem FV.av_inj {r s : FV} (h : r.av = s.av) : r = s := by
  cases r <;> cases s <;> simp only [FV.av] at h <;> cases h <;> rfl
theorem Hand.fvs {h : Nat → Obj} {l : List FV} (hd : ∀ z ∈ avs l, Hand h z) : l.map FV.dis = l ∧ ∀ o ∈ l.flatMap FV.refs, pH h o = true := by
  constructor
  · have : ∀ r ∈ l, r.dis = r := fun r hr => FV.av_inj (by rw [FV.av_dis]; exact (hd r.av (List.mem_map_of_mem hr)).1)
    clear hd
    induction l with
    | nil => rfl
    | cons r l ih => simp only [List.map_cons, this r (by simp), ih fun r hr => this r (by simp [hr])]
  · intro o ho
    obtain ⟨r, hr, ho⟩ := List.mem_flatMap.1 ho
    exact (hd r.av (List.mem_map_of_mem hr)).2 o (by rw [FV.av_refs]; exact ho)
theorem Hand.fn {h : Nat → Obj} {f : Nat} {fa fc : List FV} (hd : ∀ z ∈ avs fa ++ avs fc, Hand h z) : Hand h (.fn f fa fc) := by
  obtain ⟨a1, a2⟩ := Hand.fvs (l := fa) (fun z hz => hd z (by simp [hz]))
  obtain ⟨c1, c2⟩ := Hand.fvs (l := fc) (fun z hz => hd z (by simp [hz]))
  refine ⟨by simp only [AV.dis, a1, c1], fun o ho => ?_⟩
  simp only [AV.refs, List.mem_append] at ho
  rcases ho with ho | ho
  · exact a2 o ho
  · exact c2 o ho
theorem Hand.with {h : Nat → Obj} {fa fc : List FV} {l : List AV} (hd : ∀ z ∈ avs fa ++ avs fc, Hand h z) (hl : ∀ z ∈ l, Hand h z) : ∀ z ∈ avs fa ++ l ++ avs fc, Hand h z := by
  intro z hz
  simp only [List.mem_append] at hz
  rcases hz with (hz | hz) | hz
  · exact hd z (by simp [hz])
  · exact hl z hz
  · exact hd z (by simp [hz])
theorem Hand.none {h : Nat → Obj} {l : List AV} (hl : ∀ z ∈ l, Hand h z) : ∀ z ∈ avs [] ++ l ++ avs [], Hand h z := by simpa [avs] using hl
theorem Hand.l0 {h : Nat → Obj} : ∀ z ∈ ([] : List AV), Hand h z := fun z hz => by cases hz
theorem Hand.l1 {h : Nat → Obj} {x : AV} {l : List AV} (h1 : Hand h x) (h2 : ∀ z ∈ l, Hand h z) : ∀ z ∈ x :: l, Hand h z := fun z hz => by
  rcases List.mem_cons.1 hz with rfl | hz
  · exact h1
  · exact h2 z hz
theorem noH : ∀ o, obOk (pH noObj) (noObj o) := fun o => trivial
end Go.Wt
namespace Go.Wt
open Go
variable {P : Program} {S : Nat → Prop} {ops : Array Oper} {st : St}
theorem res1F {rv : ResultVar} {r : FV} {h : Nat → Obj} (k : ROk P st rv r) (hr : ∀ o ∈ r.refs, pH h o = true) (hs : ∀ o, isFree (h o) = false → st.ob o = h o) (hH : ∀ o, obOk (pH h) (h o)) : ResOk P (fun o => h o ≠ .free) #[rv] r.av h st := fun fn hfn G w a hrs => by
  obtain ⟨u, u1, u2⟩ := k.run hrs (.ret, [])
  refine ⟨G.fg (pH h), u, ?_, ?_, fun o => ?_, Keep.fg fun o ho => ?_⟩
  · simp only [results_rv, hfn, List.mapM_toArray, List.mapM_cons, List.mapM_nil, Sem.run_bind, Sem.run_map, Sem.run_pure, Result.andThen_ok, bind_pure_comp, map_pure, u1]
    simp
  · have := u2.mono (ω' := (.ret, [])) (Sh.fg (pH h)) (Ow.fg _ _ _) (Hm.fg hr)
    cases r with
    | v x => exact this
    | box o L => exact this
  · cases hf : isFree (h o) with
    | true => rw [isFree_eq hf]; simp [RelO, Gh.fg, pH, hf]
    | false =>
      have := hrs.objs o
      rw [hs o hf] at this
      exact this.fg (by simp [pH, hf]) (hH o)
  · cases hf : isFree (h o) with
    | true => exact absurd (isFree_eq hf) ho
    | false => simp [pH, hf]
/-- The end of a function that had objects of its own beside those handed to it. -/
theorem finF {rv : ResultVar} {r : FV} {r' : AV} {h : Nat → Obj} (k : ROk P st rv r) (hr : r.refs = []) (he : r.av = r') (hs : ∀ o, isFree (h o) = false → st.ob o = h o) (hH : ∀ o, obOk (pH h) (h o)) :
    ∃ r1 h1, ResOk P (fun o => h o ≠ .free) #[rv] r1 h1 st ∧ r1 = r' ∧ h1 = h :=
  ⟨_, _, res1F k (by rw [hr]; intro o ho; cases ho) hs hH, he, rfl⟩
theorem plain_refs {α : Type} [Enc α] [Plain α] (x : α) {p : Nat → Bool} : ∀ o ∈ Enc.refs x, p o = true := by rw [Plain.refs_eq]; intro o ho; cases ho
theorem obOk_arr {α : Type} [Enc α] [Plain α] {x : List α} {p : Nat → Bool} : obOk p (.arr x) := fun y _ => plain_refs y
theorem obOk_cell {α : Type} [Enc α] [Plain α] {x : α} {p : Nat → Bool} : obOk p (.cell x) := plain_refs x
end Go.Wt
namespace Go.Wt
open Go
variable {P : Program} {S : Nat → Prop} {ops : Array Oper} {st : St}
theorem op_bsc {d : Nat} {T pos aft} {α : Type} [Enc α] [Plain α] {t E : TypeId} {bytes n : Nat} {z0 : α} {parts : List (Nat × Operand)} {xs : List α} {rt} (sl : SlOk P t E bytes α) (hz : ZeroOk P E z0) (he : Elts st α 0 parts xs rt) (hnn : xs.length = n) (hsmall : n * Enc.size α ≤ 16777216) (hn : Nat.blt d st.n = true) :
    OpOk P S ops ⟨some d, .buildSlice t n parts.toArray, T, pos, aft, none⟩ rt [] [(d, some (.v (CList.mk xs)))] [] st := by
  intro st1 hg G w a hr K Q hK
  unfold stepO
  rw [if_pos (by simp [Region.wanted])]
  refine .inl ?_
  obtain ⟨cs, hl, hrows, hrun⟩ := buildSlice_run (d := d) (T := T) (pos := pos) (aft := aft) sl hz he hnn hsmall hg hr (fun _ h => h)
  unfold Oper.wp
  rw [hrun]
  simp only [Oper.upon]
  obtain ⟨G', h1, h2, h3⟩ := hr.newrow (d := d) (e := E) hrows (Nat.le_refl _) (by rw [hl, hnn]; exact Nat.le_refl _) (by have := Nat.le_mul_of_pos_right n (Enc.size_pos (α := α)); rw [hnn]; unfold big; omega)
  rw [hnn] at h3
  have h4 : RelV G' (w.alloc (.cells cs.toArray E)) (.tmp d, []) (.v (CList.mk xs)) (.slice (some ⟨w.heap.size, 0, none⟩) n n) := by
    obtain ⟨cs', ⟨a', cap', e1, e2, e3, _⟩, e4⟩ := h3
    rw [e1] at e4
    have e5 : Enc.val (OList α) [Value.slice a' xs.length cap'] = .slice a' xs.length cap' := by simp [Enc.val, Enc.agg]
    rw [e5] at e4
    injection e4 with e6 e7 e8
    subst e6
    exact ⟨_, ⟨_, rfl, e3⟩, by rw [← hnn]; simp [Enc.val, Enc.agg]⟩
  exact hK _ _ G' (h1.put (av := some _) (by rw [hg.n]; simpa using hn) h4) (h2 S)
end Go.Wt

/- Objects that are named in values: rows written in place; calls that hand objects; what is handed out for good. -/
set_option linter.unusedVariables false
set_option linter.unusedSimpArgs false
namespace Go.Wt
open Go

variable {P : Program} {S : Nat → Prop} {ops : Array Oper} {st : St}

theorem Conv.nr {o : Nat} : Conv (.v (ARef.mk o)) (.v (NRef.ref o)) := fun {G w ω ω' u} ⟨cs, ⟨a, n, c, h1, h2⟩, h3⟩ => ⟨cs, ⟨a, n, c, h1, h2⟩, h3⟩
theorem Conv.nn : Conv .nil (.v NRef.nil) := fun {G w ω ω' u} h => ⟨[u], by rw [show u = .slice none 0 0 from h]; rfl, rfl⟩
theorem RelV.ref {G w ω o u} (h : RelV G w ω (.v (NRef.ref o)) u) : ∃ a n c, u = .slice a n c ∧ G.hdr o = some (.slice a n c) := by
  obtain ⟨cs, ⟨a, n, c, h1, h2⟩, h3⟩ := h
  exact ⟨a, n, c, by rw [h3, h1]; rfl, h2⟩
section ops
variable {d : Nat} {T pos aft} {x y z : Operand}

theorem op_lenA {E bytes t : TypeId} {o : Nat} {α : Type} [Enc α] {xs : List α} (sl : SlOk P t E bytes α) (hx : st.ev x = some (.v (NRef.ref o))) (ho : st.ob o = .arr xs) (hn : Nat.blt d st.n = true) :
    OpOk P S ops ⟨some d, .call { callee := .builtin .len, args := #[x], argTypes := #[t] }, T, pos, aft, none⟩ (opT x) [o] [(d, some (.v (xs.length : Int)))] [] st :=
  OpOk.value rfl rfl (by simpa using hn) fun st1 hag G w a hr => ⟨.int .i64 xs.length, by
    obtain ⟨ad, n, c, h1, h2⟩ := RelV.ref (hr.at hag hx fun t ht => ht)
    have hob := hr.objs o
    rw [hag.ob o (by simp), ho] at hob
    obtain ⟨b, cap, cs, e, k1, _⟩ := hob
    rw [h2] at k1
    injection k1 with k1
    injection k1 with k1 k2 k3
    subst k2
    simp [execOp, resolve, invoke, builtin, Builtin.len_, h1, run_underlying sl.spec.1, goInt], relInt _ _ _ _⟩

theorem op_ixA {E bytes t : TypeId} {o : Nat} {α : Type} [Enc α] {xs : List α} {i : Int} (sl : SlOk P t E bytes α) (hx : st.ev x = some (.v (NRef.ref o))) (hy : st.ev y = some (.v i)) (ho : st.ob o = .arr xs) (hn : Nat.blt d st.n = true)
    (h0 : 0 ≤ i ∧ i.toNat < xs.length) : OpOk P S ops ⟨some d, .indexAddr t x y, T, pos, aft, none⟩ (opT x ++ opT y) [o] [(d, some (.elm o i.toNat (IsLens.whole α)))] [] st :=
  OpOk.value rfl rfl (by simpa using hn) fun st1 hag G w a hr => by
    obtain ⟨ad, n, c, h1, h2⟩ := RelV.ref (hr.at hag hx fun t ht => by simp [ht])
    have e2 := RelV.int (hr.at hag hy fun t ht => by simp [ht])
    have hob := hr.objs o
    rw [hag.ob o (by simp), ho] at hob
    obtain ⟨b, cap, cs, e, k1, _⟩ := hob
    have k0 := k1
    rw [h2] at k1
    injection k1 with k1
    injection k1 with k1 k2 k3
    subst k1 k2 k3
    refine ⟨.pointer (some ⟨b, i.toNat * Enc.size α, none⟩), ?_, b, _, _, k0, by simp⟩
    have hi : 0 ≤ i ∧ i < (xs.length : Int) := ⟨h0.1, by omega⟩
    have hsz := sl.el.size w
    simp only [execOp, Instr.indexAt, Sem.run_bind, h1, e2, asIntOf, Sem.run_pure, Result.andThen_ok, run_underlying sl.spec.1]
    simp [hi, hsz, add_lit]

theorem op_eqp_nil {t t' : TypeId} (hu : P.underlying t = some (.pointer (P.pointee t))) (hx : st.ev x = some .nilp) (hn : Nat.blt d st.n = true) :
    OpOk P S ops ⟨some d, .binOp .eql t x (.const (.pointer none)) t', T, pos, aft, none⟩ (opT x) [] [(d, some (.v true))] [] st :=
  bin_value hn fun st1 hag G w a hr => by
    have h1 : a.eval x = .pointer none := hr.at hag hx fun t ht => ht
    have h2 : a.eval (.const (.pointer none)) = .pointer none := rfl
    exact ⟨.bool true, by rw [h1, h2, run_eql_pointer_nil w t none hu]; rfl, by rw [h1, eqGuard_at_pointer]; rfl, relBool _ _ _ _⟩
theorem op_eqp_elm {t t' : TypeId} {o i : Nat} {α γ : Type} [Enc α] [Enc γ] {get : α → γ} {set off pth} {L : IsLens get set off pth} (hu : P.underlying t = some (.pointer (P.pointee t))) (hx : st.ev x = some (.elm o i L)) (hn : Nat.blt d st.n = true) :
    OpOk P S ops ⟨some d, .binOp .eql t x (.const (.pointer none)) t', T, pos, aft, none⟩ (opT x) [] [(d, some (.v false))] [] st :=
  bin_value hn fun st1 hag G w a hr => by
    obtain ⟨b, n, c, _, h1⟩ := hr.at hag hx fun t ht => ht
    have h2 : a.eval (.const (.pointer none)) = .pointer none := rfl
    exact ⟨.bool false, by rw [h1, h2, run_eql_pointer_nil w t _ hu]; rfl, by rw [h1, eqGuard_at_pointer]; rfl, relBool _ _ _ _⟩
theorem op_mvp {av : AV} (hx : st.ev x = some av) (hd : av.dis = av) (hn : Nat.blt d st.n = true) : OpOk P S ops ⟨some d, .move x, T, pos, aft, none⟩ (opT x) [] [(d, some av)] [] st := op_mv hx (Conv.of hd) hn
end ops

/-! ### Calls with named objects -/
theorem lk_lk0 {β : Type 1} (l : List (Nat × β)) : lk l = lk0 l := by
  funext t
  induction l with
  | nil => rfl
  | cons x l ih => obtain ⟨k, x⟩ := x; simp only [lk, lk0, ih]
def OLs (st : St) : List (Nat × Obj) → Prop
  | [] => True
  | (o, x) :: r => st.ob o = x ∧ OLs st r
theorem OLs.get {ol : List (Nat × Obj)} (h : OLs st ol) {o : Nat} {x : Obj} (hx : lk0 ol o = some x) : st.ob o = x := by
  induction ol with
  | nil => cases hx
  | cons y l ih =>
    obtain ⟨k, y⟩ := y
    simp only [lk0] at hx
    by_cases e : o = k
    · rw [if_pos e] at hx; injection hx with hx; subst hx; subst e; exact h.1
    · rw [if_neg e] at hx; exact ih h.2 hx
def OKs (p : Nat → Bool) : List (Nat × Obj) → Prop
  | [] => True
  | (o, x) :: r => obOk p x ∧ OKs p r
theorem OKs.get {p : Nat → Bool} {ol : List (Nat × Obj)} (h : OKs p ol) {o : Nat} {x : Obj} (hx : lk0 ol o = some x) : obOk p x := by
  induction ol with
  | nil => cases hx
  | cons y l ih =>
    obtain ⟨k, y⟩ := y
    simp only [lk0] at hx
    by_cases e : o = k
    · rw [if_pos e] at hx; injection hx with hx; subst hx; exact h.1
    · rw [if_neg e] at hx; exact ih h.2 hx
theorem pass_obs {ol : List (Nat × Obj)} (h : OLs st ol) : pass (keys ol) st.ob = obs ol := by
  funext o
  unfold pass obs keys
  cases hx : lk0 ol o with
  | none => simp [orr]
  | some x => simp [orr, h.get hx]
/-- A call with the objects of `ol`; behind it they are as `ol'` says, which may have more. -/
theorem awpOps_callO {d : Nat} {T pos aft} {x : Operand} {f : FuncId} {xs : List Operand} {av : List AV} {fa fc : List FV} {ts : Array TypeId} {rt : List Nat} {l : List Oper} {Q : St → Prop} (ol : List (Nat × Obj)) {R : AV → (Nat → Obj) → Prop}
    (hfun : st.ev x = some (.fn f fa fc)) (hB : fnB P f = true) (ha : Args st 0 xs av rt) (hct : Ct P f (avs fa ++ av ++ avs fc) (obs ol) R) (hol : OLs st ol) (hok : OKs (keys ol) ol)
    (hdis : ∀ z ∈ avs fa ++ av ++ avs fc, z.dis = z ∧ ∀ o ∈ z.refs, keys ol o = true) (hn : Nat.blt d st.n = true)
    (hk : ∀ r h', R r h' → ∃ ol', h' = obs ol' ∧ (∀ o, keys ol o = true → keys ol' o = true) ∧ (∀ o, keys ol' o = true → keys ol o = false → st.ob o = .free) ∧ OKs (keys ol') ol' ∧ (∀ o ∈ r.refs, keys ol' o = true) ∧ awpOps P S ops l Q (st.upd [(d, some r)] ol')) :
    awpOps P S ops (⟨some d, .call { callee := .value x, args := xs.toArray, argTypes := ts }, T, pos, aft, none⟩ :: l) Q st := by
  intro G w a hr Q' hQ
  have hd : d < st.n := by simpa using hn
  refine stepO_cons (call_core (rt := rt) (p := keys ol) (ob := st.ob) hfun ha hB (by rw [pass_obs hol]; exact hct) hdis (fun o ho => ?_) (Agree.refl (opT x ++ rt) [] st) (fun _ h => h) (fun _ _ => rfl) hr hd ?_)
  · unfold keys at ho
    obtain ⟨y, hy⟩ := Option.isSome_iff_exists.1 ho
    rw [hol.get hy]; exact hok.get hy
  intro r h' u G2 w2 hR hv ho hkp
  obtain ⟨ol', rfl, m1, m2, m3, m4, m5⟩ := hk r h' hR
  obtain ⟨k1, k2⟩ := leave_spec (q := keys ol') hr hd m1 m2 (fun o hq => by unfold keys at hq; unfold obs; cases hx : lk0 ol' o with
      | none => rfl
      | some y => rw [hx] at hq; cases hq) m4 (fun o => by
        unfold obs
        cases hx : lk0 ol' o with
        | none => trivial
        | some y => exact m3.get hx) hv ho hkp
  have e : (⟨st.n, fun t => if t = d then some r else st.tm t, merge (keys ol') st.ob (obs ol')⟩ : St) = st.upd [(d, some r)] ol' := by
    unfold St.upd merge
    congr 1
    · funext t
      simp only [lk]
      by_cases e : t = d <;> simp [e, orr]
    · funext o
      rw [lk_lk0]
      unfold keys obs
      cases hx : lk0 ol' o <;> simp [orr]
  rw [e] at k1
  exact m5 _ _ _ k1 Q' fun a'' w'' G'' st'' k1' k2' hq' => hQ a'' w'' G'' st'' k1' ((k2 S).trans k2') hq'
/-- What a function does with the objects it is handed: all is known. -/
def CtO (P : Program) (f : FuncId) (args : List AV) (ol : List (Nat × Obj)) (r : AV) (ol' : List (Nat × Obj)) : Prop := Ct P f args (obs ol) fun r1 h1 => r1 = r ∧ h1 = obs ol'
def keysEq (a b : List (Nat × Obj)) : Bool := (a.map (·.1)) == (b.map (·.1))
theorem keys_map (l : List (Nat × Obj)) (o : Nat) : keys l o = (l.map (·.1)).contains o := by
  induction l with
  | nil => rfl
  | cons x l ih =>
    obtain ⟨k, x⟩ := x
    unfold keys at ih ⊢
    simp only [lk0, List.map_cons, List.contains_cons]
    by_cases e : o = k
    · simp [e]
    · rw [if_neg e, ih]; simp [e]
theorem keysEq_keys {a b : List (Nat × Obj)} (h : keysEq a b = true) : keys a = keys b := by
  funext o
  rw [keys_map, keys_map]
  unfold keysEq at h
  simp at h
  rw [h]
/-- As one operation. -/
theorem op_callO {d : Nat} {T pos aft} {f : FuncId} {xs : List Operand} {av : List AV} {ts : Array TypeId} {rt : List Nat} {ol ol' : List (Nat × Obj)} {r : AV}
    (hB : fnB P f = true) (ha : Args st 0 xs av rt) (hct : CtO P f av ol r ol') (hol : OLs st ol) (hok : OKs (keys ol) ol) (hok' : OKs (keys ol) ol') (hke : keysEq ol ol' = true)
    (hdis : ∀ z ∈ av, z.dis = z ∧ ∀ o ∈ z.refs, keys ol o = true) (hrr : ∀ o ∈ r.refs, keys ol o = true) (hn : Nat.blt d st.n = true) :
    OpOk P S ops ⟨some d, .call { callee := .value (.func f), args := xs.toArray, argTypes := ts }, T, pos, aft, none⟩ rt (ol.map (·.1)) [(d, some r)] ol' st := by
  intro st1 hag G w a hr K Q hK
  have hd : d < st1.n := by rw [hag.n]; simpa using hn
  have hob1 : ∀ o, keys ol o = true → st1.ob o = st.ob o := fun o ho => hag.ob o (by rw [keys_map] at ho; simpa using ho)
  have hct' : Ct P f (avs [] ++ av ++ avs []) (pass (keys ol) st.ob) (fun r1 h1 => r1 = r ∧ h1 = obs ol') := by
    have e1 : avs [] ++ av ++ avs [] = av := by simp [avs]
    rw [e1, pass_obs hol]; exact hct
  refine call_core (x := .func f) (fa := []) (fc := []) (rt := rt) (p := keys ol) (ob := st.ob) rfl ha hB hct' (fun z hz => hdis z (by simpa [avs] using hz)) (fun o ho => ?_) hag (fun t ht => by simpa [opT] using ht) hob1 hr hd ?_
  · unfold keys at ho
    obtain ⟨y, hy⟩ := Option.isSome_iff_exists.1 ho
    rw [hol.get hy]; exact hok.get hy
  rintro r1 h' u G2 w2 ⟨rfl, rfl⟩ hv ho hkp
  have hkk := keysEq_keys hke
  obtain ⟨k1, k2⟩ := leave_spec (q := keys ol) hr hd (fun o h => h) (fun o h1 h2 => by rw [h1] at h2; cases h2) (fun o hq => by
      rw [hkk] at hq; unfold keys at hq; unfold obs
      cases hx : lk0 ol' o with
      | none => rfl
      | some y => rw [hx] at hq; cases hq) hrr (fun o => by
        unfold obs
        cases hx : lk0 ol' o with
        | none => trivial
        | some y => exact hok'.get hx) hv ho hkp
  refine hK _ _ _ ?_ (k2 S)
  have e : (⟨st1.n, fun t => if t = d then some r1 else st1.tm t, merge (keys ol) st1.ob (obs ol')⟩ : St) = st1.upd [(d, some r1)] ol' := by
    unfold St.upd merge
    congr 1
    · funext t
      simp only [lk]
      by_cases e : t = d <;> simp [e, orr]
    · funext o
      rw [lk_lk0, hkk]
      unfold keys obs
      cases hx : lk0 ol' o <;> simp [orr]
  rw [← e]; exact k1
theorem oks0 {p : Nat → Bool} : OKs p [] := trivial
theorem oksk {p : Nat → Bool} {o : Nat} {x : Obj} {r} (h : obOk p x) (k : OKs p r) : OKs p ((o, x) :: r) := ⟨h, k⟩
theorem olsk {o : Nat} {x : Obj} {r} (h : st.ob o = x) (k : OLs st r) : OLs st ((o, x) :: r) := ⟨h, k⟩
theorem ols0 : OLs st [] := trivial
theorem argO0 {p : Nat → Bool} : ∀ z ∈ ([] : List AV), z.dis = z ∧ ∀ o ∈ z.refs, p o = true := fun z h => by cases h
theorem argOk' {p : Nat → Bool} {x : AV} {l : List AV} (h1 : x.dis = x) (h2 : x.refs = []) (h : ∀ z ∈ l, z.dis = z ∧ ∀ o ∈ z.refs, p o = true) : ∀ z ∈ x :: l, z.dis = z ∧ ∀ o ∈ z.refs, p o = true := fun z hz => by
  rcases List.mem_cons.1 hz with rfl | hz
  · exact ⟨h1, by rw [h2]; intro o ho; cases ho⟩
  · exact h z hz
theorem argOb {p : Nat → Bool} {o : Nat} {x : AV} {l : List AV} (h1 : x.dis = x) (h2 : x.refs = [o]) (hp : p o = true) (h : ∀ z ∈ l, z.dis = z ∧ ∀ o ∈ z.refs, p o = true) : ∀ z ∈ x :: l, z.dis = z ∧ ∀ o ∈ z.refs, p o = true := fun z hz => by
  rcases List.mem_cons.1 hz with rfl | hz
  · exact ⟨h1, by rw [h2]; intro o' ho; simp at ho; subst ho; exact hp⟩
  · exact h z hz
/-- The end of a function that was handed objects: several results, or none. -/
theorem finO {rvs : List ResultVar} {rs : List FV} {r' : AV} {ol0 : List (Nat × Obj)} (ol : List (Nat × Obj)) (h : RsOk P st rvs rs) (hl : Nat.beq rs.length 1 = false) (hr : ∀ o ∈ rs.flatMap FV.refs, keys ol o = true) (h2 : OL st (keys ol) ol) (hS : ∀ o, obs ol0 o ≠ .free → keys ol o = true) (he : AV.tup rs = r') :
    ∃ r1 h1, ResOk P (fun o => obs ol0 o ≠ .free) rvs.toArray r1 h1 st ∧ r1 = r' ∧ h1 = obs ol :=
  ⟨_, _, resN (ol := ol) h hl hr h2 hS, he, rfl⟩
theorem finO1 {rv : ResultVar} {r : FV} {r' : AV} {ol0 : List (Nat × Obj)} (ol : List (Nat × Obj)) (h : ROk P st rv r) (hr : ∀ o ∈ r.refs, keys ol o = true) (h2 : OL st (keys ol) ol) (hS : ∀ o, obs ol0 o ≠ .free → keys ol o = true) (he : r.av = r') :
    ∃ r1 h1, ResOk P (fun o => obs ol0 o ≠ .free) #[rv] r1 h1 st ∧ r1 = r' ∧ h1 = obs ol :=
  ⟨_, _, res1 (ol := ol) h hr h2 hS, he, rfl⟩
theorem hS_keys {a b : List (Nat × Obj)} (h : keysEq a b = true) : ∀ o, obs a o ≠ .free → keys b o = true := fun o ho => by
  rw [← keysEq_keys h]
  unfold keys
  unfold obs at ho
  cases hx : lk0 a o with
  | none => rw [hx] at ho; exact absurd rfl ho
  | some y => rfl
/-- One result that names an object. -/
theorem res1E {t : Nat} {av : AV} (ol : List (Nat × Obj)) (hx : st.tm t = some av) (hd : av.dis = av) (hr : av.refs.all (keys ol) = true) (h2 : OL st (keys ol) ol) (hS : ∀ o, S o → keys ol o = true) :
    ResOk P S #[.tmp t] av (obs ol) st := fun fn hfn G w a hrs => by
  have hv := hrs.tmps t
  rw [hx] at hv
  refine ⟨G.fg (keys ol), a.tmps.getD t undef, ?_, ?_, objs_fg hrs h2, Keep.fg hS⟩
  · simp only [results_rv, hfn, List.mapM_toArray, List.mapM_cons, List.mapM_nil, rvRun, Sem.run_bind, Sem.run_map, Sem.run_pure, Result.andThen_ok, bind_pure_comp, map_pure]
    simp
  · have := RelV.mono_dis (ω' := (.ret, [])) (Sh.fg (keys ol)) (Hm.fg (fun o ho => List.all_eq_true.1 hr o ho)) hv
    rwa [hd] at this
def keysSub (a b : List (Nat × Obj)) : Bool := a.all fun x => keys b x.1
theorem hS_sub {a b : List (Nat × Obj)} (h : keysSub a b = true) : ∀ o, obs a o ≠ .free → keys b o = true := fun o ho => by
  unfold obs at ho
  cases hx : lk0 a o with
  | none => rw [hx] at ho; exact absurd rfl ho
  | some y =>
    have : ∀ (l : List (Nat × Obj)), lk0 l o = some y → (l.all fun x => keys b x.1) = true → keys b o = true := by
      intro l
      induction l with
      | nil => intro h; cases h
      | cons z l ih =>
        obtain ⟨k, z⟩ := z
        intro h1 h2
        simp only [lk0] at h1
        simp only [List.all_cons, Bool.and_eq_true] at h2
        by_cases e : o = k
        · subst e; exact h2.1
        · rw [if_neg e] at h1; exact ih h1 h2.2
    exact this a hx h
end Go.Wt
