import Derived.WalkKit
import Derived.Lib.Builder
/-! The abstract layer: values, heaps, how they stand for the model's. -/
set_option linter.unusedVariables false
set_option linter.unusedSimpArgs false
namespace Go.Ab
open Go.RowKit

/-- Abstract values: addresses are names of blocks. -/
inductive V where
  | bot
  | int (k : IntKind) (n : Int)
  | bool (b : Bool)
  | str (l : List UInt8)
  | ptr (a : Option (Nat × Nat))
  | sl (a : Option (Nat × Nat)) (sz n : Nat)
  | sl0
  | sle
  | map (r : Option Nat)
  | fn (f : Nat) (first cap : List V)
  | nilfn
  | ifc (t : Nat) (v : V)
  | nilifc
  | agg (l : List V)
  | tup (l : List V)
  deriving Inhabited

inductive O where
  | cells (l : List V)
  | map (l : List (V × V))

/-- ty: of some blocks: which type they were made of, and how many cells they have. -/
structure H where
  ro : Nat
  next : Nat
  get : Nat → Option O
  ty : Nat → Option (Nat × Option Nat)

structure G where
  ι : Nat → Nat
  κ : Nat → Nat

mutual
def VRel (g : G) (N : Nat) : V → Value → Prop
  | .bot, _ => True
  | .int k n, x => x = .int k n
  | .bool b, x => x = .bool b
  | .str l, x => x = .string ⟨l.toArray⟩
  | .ptr none, x => x = .pointer none
  | .ptr (some (b, o)), x => b < N ∧ x = .pointer (some ⟨g.ι b, o, none⟩)
  | .sl none _ n, x => n = 0 ∧ x = .slice none 0 0
  | .sl (some (b, o)) sz n, x => b < N ∧ ∃ c, n ≤ c ∧ c ≤ maxLen ∧ o + c * sz ≤ g.κ b ∧ x = .slice (some ⟨g.ι b, o, none⟩) n c
  | .sl0, x => ∃ a, x = .slice (some a) 0 0
  | .sle, x => ∃ a c, x = .slice (some a) 0 c
  | .map none, x => x = .map none
  | .map (some r), x => r < N ∧ x = .map (some (g.ι r))
  | .fn f l m, x => ∃ c d, x = .func (.func f) c d ∧ VsRel g N l c.toList ∧ VsRel g N m d.toList
  | .nilfn, x => x = .nilFunc
  | .ifc t v, x => ∃ y, x = .iface t y ∧ VRel g N v y
  | .nilifc, x => x = .nilIface
  | .agg l, x => ∃ c, x = .agg c ∧ VsRel g N l c.toList
  | .tup l, x => ∃ c, x = .tuple c ∧ VsRel g N l c.toList
def VsRel (g : G) (N : Nat) : List V → List Value → Prop
  | [], xs => xs = []
  | v :: vs, xs => ∃ y ys, xs = y :: ys ∧ VRel g N v y ∧ VsRel g N vs ys
end

def Agree (N : Nat) (g g' : G) : Prop := ∀ b, b < N → g'.ι b = g.ι b ∧ g'.κ b = g.κ b

theorem Agree.refl (N : Nat) (g : G) : Agree N g g := fun _ _ => ⟨rfl, rfl⟩
theorem Agree.trans {N N' : Nat} {g g' g'' : G} (h : Agree N g g') (h' : Agree N' g' g'') (hn : N ≤ N') : Agree N g g'' :=
  fun b hb => ⟨(h' b (by omega)).1.trans (h b hb).1, (h' b (by omega)).2.trans (h b hb).2⟩

mutual
theorem VRel.mono {g g' : G} {N N' : Nat} (ha : Agree N g g') (hn : N ≤ N') : ∀ {v : V} {x : Value}, VRel g N v x → VRel g' N' v x
  | .bot, _, _ => by simp only [VRel]
  | .int _ _, _, h => by simp only [VRel] at h ⊢; exact h
  | .bool _, _, h => by simp only [VRel] at h ⊢; exact h
  | .str _, _, h => by simp only [VRel] at h ⊢; exact h
  | .ptr none, _, h => by simp only [VRel] at h ⊢; exact h
  | .ptr (some (b, o)), _, h => by
    simp only [VRel] at h ⊢
    exact ⟨by omega, by rw [(ha b h.1).1]; exact h.2⟩
  | .sl none _ _, _, h => by simp only [VRel] at h ⊢; exact h
  | .sl (some (b, o)) sz n, _, h => by
    simp only [VRel] at h ⊢
    obtain ⟨h1, c, h2, h3, h4, h5⟩ := h
    exact ⟨by omega, c, h2, h3, by rw [(ha b h1).2]; exact h4, by rw [(ha b h1).1]; exact h5⟩
  | .sl0, _, h => by simp only [VRel] at h ⊢; exact h
  | .sle, _, h => by simp only [VRel] at h ⊢; exact h
  | .map none, _, h => by simp only [VRel] at h ⊢; exact h
  | .map (some r), _, h => by
    simp only [VRel] at h ⊢
    exact ⟨by omega, by rw [(ha r h.1).1]; exact h.2⟩
  | .fn f l m, _, h => by
    simp only [VRel] at h ⊢
    obtain ⟨c, d, h1, h2, h3⟩ := h
    exact ⟨c, d, h1, VsRel.mono ha hn h2, VsRel.mono ha hn h3⟩
  | .nilfn, _, h => by simp only [VRel] at h ⊢; exact h
  | .ifc t v, _, h => by
    simp only [VRel] at h ⊢
    obtain ⟨y, h1, h2⟩ := h
    exact ⟨y, h1, VRel.mono ha hn h2⟩
  | .nilifc, _, h => by simp only [VRel] at h ⊢; exact h
  | .agg l, _, h => by
    simp only [VRel] at h ⊢
    obtain ⟨c, h1, h2⟩ := h
    exact ⟨c, h1, VsRel.mono ha hn h2⟩
  | .tup l, _, h => by
    simp only [VRel] at h ⊢
    obtain ⟨c, h1, h2⟩ := h
    exact ⟨c, h1, VsRel.mono ha hn h2⟩
theorem VsRel.mono {g g' : G} {N N' : Nat} (ha : Agree N g g') (hn : N ≤ N') : ∀ {v : List V} {x : List Value}, VsRel g N v x → VsRel g' N' v x
  | [], _, h => by simp only [VsRel] at h ⊢; exact h
  | v :: vs, _, h => by
    simp only [VsRel] at h ⊢
    obtain ⟨y, ys, h1, h2, h3⟩ := h
    exact ⟨y, ys, h1, VRel.mono ha hn h2, VsRel.mono ha hn h3⟩
end

section
variable {g : G} {N : Nat}

theorem VsRel.length : ∀ {v : List V} {x : List Value}, VsRel g N v x → v.length = x.length
  | [], _, h => by simp only [VsRel] at h; simp [h]
  | v :: vs, _, h => by
    simp only [VsRel] at h
    obtain ⟨y, ys, rfl, _, h3⟩ := h
    simp [VsRel.length h3]

theorem VsRel.cons {v : V} {vs : List V} {x : Value} {xs : List Value} (h : VRel g N v x) (h' : VsRel g N vs xs) : VsRel g N (v :: vs) (x :: xs) := by
  simp only [VsRel]; exact ⟨x, xs, rfl, h, h'⟩

theorem VsRel.append : ∀ {v v' : List V} {x x' : List Value}, VsRel g N v x → VsRel g N v' x' → VsRel g N (v ++ v') (x ++ x')
  | [], v', x, x', h, h' => by simp only [VsRel] at h; subst h; simpa using h'
  | v :: vs, v', x, x', h, h' => by
    simp only [VsRel] at h
    obtain ⟨y, ys, rfl, h2, h3⟩ := h
    exact VsRel.cons h2 (VsRel.append h3 h')

theorem VsRel.take : ∀ {v : List V} {x : List Value} (n : Nat), VsRel g N v x → VsRel g N (v.take n) (x.take n)
  | [], _, n, h => by simp only [VsRel] at h; subst h; simp [VsRel]
  | v :: vs, _, n, h => by
    simp only [VsRel] at h
    obtain ⟨y, ys, rfl, h2, h3⟩ := h
    cases n with
    | zero => simp [VsRel]
    | succ n => exact VsRel.cons h2 (VsRel.take n h3)

theorem VsRel.drop : ∀ {v : List V} {x : List Value} (n : Nat), VsRel g N v x → VsRel g N (v.drop n) (x.drop n)
  | [], _, n, h => by simp only [VsRel] at h; subst h; simp [VsRel]
  | v :: vs, _, n, h => by
    have h0 := h
    simp only [VsRel] at h
    obtain ⟨y, ys, rfl, h2, h3⟩ := h
    cases n with
    | zero => exact h0
    | succ n => exact VsRel.drop n h3

theorem VsRel.get? : ∀ {v : List V} {x : List Value} {i : Nat} {u : V}, VsRel g N v x → v[i]? = some u → ∃ y, x[i]? = some y ∧ VRel g N u y
  | [], _, _, _, _, hu => by simp at hu
  | v :: vs, _, i, u, h, hu => by
    simp only [VsRel] at h
    obtain ⟨y, ys, rfl, h2, h3⟩ := h
    cases i with
    | zero => simp at hu; subst hu; exact ⟨y, rfl, h2⟩
    | succ i => simpa using VsRel.get? (i := i) h3 (by simpa using hu)

theorem VsRel.of_get : ∀ {v : List V} {x : List Value}, v.length = x.length → (∀ (i : Nat) (u : V) (y : Value), v[i]? = some u → x[i]? = some y → VRel g N u y) → VsRel g N v x
  | [], x, hl, _ => by
    have : x = [] := List.eq_nil_of_length_eq_zero (by simpa using hl.symm)
    simp only [VsRel]; exact this
  | v :: vs, [], hl, _ => by simp at hl
  | v :: vs, y :: ys, hl, h => VsRel.cons (h 0 v y rfl rfl) (VsRel.of_get (by simpa using hl) fun i u z hu hz => h (i + 1) u z (by simpa using hu) (by simpa using hz))

theorem VsRel.map_left {α : Type} (l : List α) (f : α → V) (f' : α → Value) (h : ∀ a ∈ l, VRel g N (f a) (f' a)) : VsRel g N (l.map f) (l.map f') := by
  induction l with
  | nil => simp [VsRel]
  | cons a l ih => exact VsRel.cons (h a (by simp)) (ih fun b hb => h b (by simp [hb]))
end

/-- The cells of a value. -/
def V.cells : V → Option (List V)
  | .bot => none
  | .agg l => some l
  | v => some [v]

/-- One cell, that is known. -/
def V.one : V → Bool
  | .bot | .agg _ | .tup _ => false
  | _ => true

theorem VRel.cells {g : G} {N : Nat} {v : V} {x : Value} {l : List V} (h : VRel g N v x) (hl : v.cells = some l) : VsRel g N l x.cells.toList := by
  cases v with
  | bot => simp [V.cells] at hl
  | agg m =>
    simp only [V.cells, Option.some.injEq] at hl
    subst hl
    simp only [VRel] at h
    obtain ⟨c, rfl, hc⟩ := h
    simpa [Value.cells] using hc
  | _ =>
    simp only [V.cells, Option.some.injEq] at hl
    subst hl
    have hx : x.cells = #[x] := by
      first
        | (simp only [VRel] at h; subst h; rfl)
        | (rename_i a; rcases a with _ | ⟨b, o⟩ <;> simp only [VRel] at h <;> first | (obtain ⟨_, rfl⟩ := h; rfl) | (subst h; rfl))
        | (rename_i a _ _; rcases a with _ | ⟨b, o⟩ <;> simp only [VRel] at h <;> first | (obtain ⟨_, rfl⟩ := h; rfl) | (obtain ⟨_, c, _, _, _, rfl⟩ := h; rfl))
        | (rename_i a; rcases a with _ | r <;> simp only [VRel] at h <;> first | (obtain ⟨_, rfl⟩ := h; rfl) | (subst h; rfl))
        | (simp only [VRel] at h; obtain ⟨c, d, rfl, _⟩ := h; rfl)
        | (simp only [VRel] at h; obtain ⟨c, rfl, _⟩ := h; rfl)
        | (simp only [VRel] at h; obtain ⟨c, rfl⟩ := h; rfl)
        | (simp only [VRel] at h; obtain ⟨c, d, rfl⟩ := h; rfl)
    rw [hx]
    exact VsRel.cons h (by simp [VsRel])

theorem VRel.one {g : G} {N : Nat} {v : V} {x : Value} (h : VRel g N v x) (hl : v.one = true) : x.oneCell' = true := by
  cases v with
  | bot => simp [V.one] at hl
  | agg m => simp [V.one] at hl
  | tup m => simp [V.one] at hl
  | _ =>
    first
      | (simp only [VRel] at h; subst h; rfl)
      | (rename_i a; rcases a with _ | ⟨b, o⟩ <;> simp only [VRel] at h <;> first | (obtain ⟨_, rfl⟩ := h; rfl) | (subst h; rfl))
      | (rename_i a _ _; rcases a with _ | ⟨b, o⟩ <;> simp only [VRel] at h <;> first | (obtain ⟨_, rfl⟩ := h; rfl) | (obtain ⟨_, c, _, _, _, rfl⟩ := h; rfl))
      | (rename_i a; rcases a with _ | r <;> simp only [VRel] at h <;> first | (obtain ⟨_, rfl⟩ := h; rfl) | (subst h; rfl))
      | (simp only [VRel] at h; obtain ⟨c, d, rfl, _⟩ := h; rfl)
      | (simp only [VRel] at h; obtain ⟨c, rfl, _⟩ := h; rfl)
      | (simp only [VRel] at h; obtain ⟨c, rfl⟩ := h; rfl)
      | (simp only [VRel] at h; obtain ⟨c, d, rfl⟩ := h; rfl)

/-! ### Heaps -/
def H.alloc (h : H) (o : O) : H := { ro := h.ro, next := h.next + 1, get := fun b => if b = h.next then some o else h.get b, ty := h.ty }
def H.allocT (h : H) (t : Option (Nat × Option Nat)) (o : O) : H := { ro := h.ro, next := h.next + 1, get := fun b => if b = h.next then some o else h.get b, ty := fun b => if b = h.next then t else h.ty b }
def H.upd (h : H) (b : Nat) (o : Option O) : H := { ro := h.ro, next := h.next, get := fun c => if c = b then o else h.get c, ty := h.ty }

def MRel (g : G) (N : Nat) : List (V × V) → List MapEntry → Prop
  | [], es => es = []
  | (k, v) :: l, es => ∃ e r, es = e :: r ∧ VRel g N k e.key ∧ VRel g N v e.val ∧ MRel g N l r

theorem MRel.mono {g g' : G} {N N' : Nat} (ha : Agree N g g') (hn : N ≤ N') : ∀ {l : List (V × V)} {es : List MapEntry}, MRel g N l es → MRel g' N' l es
  | [], _, h => by simp only [MRel] at h ⊢; exact h
  | (k, v) :: l, _, h => by
    simp only [MRel] at h ⊢
    obtain ⟨e, r, h1, h2, h3, h4⟩ := h
    exact ⟨e, r, h1, h2.mono ha hn, h3.mono ha hn, MRel.mono ha hn h4⟩

def ORel (g : G) (N : Nat) (rw : Prop) (κ : Nat) : O → Obj → Prop
  | .cells l, X => ∃ c e fr, X = .cells c e fr ∧ c.size = κ ∧ (rw → fr = (0, 0)) ∧ l.length ≤ c.size ∧ VsRel g N l (c.toList.take l.length)
  | .map l, X => ∃ es clk, X = .map es clk ∧ MRel g N l es.toList

theorem ORel.mono {g g' : G} {N N' : Nat} {rw : Prop} {κ : Nat} (ha : Agree N g g') (hn : N ≤ N') {o : O} {X : Obj} (h : ORel g N rw κ o X) : ORel g' N' rw κ o X := by
  cases o with
  | cells l =>
    obtain ⟨c, e, fr, h1, h2, h3, h4, h5⟩ := h
    exact ⟨c, e, fr, h1, h2, h3, h4, h5.mono ha hn⟩
  | map l =>
    obtain ⟨es, clk, h1, h2⟩ := h
    exact ⟨es, clk, h1, h2.mono ha hn⟩

/-- What stays: the blocks S of a world; Z: those of them that no name stands for. -/
structure Base where
  W : World
  S : Nat → Prop
  Z : Nat → Prop
  lt : ∀ i, S i → i < W.heap.size
  zs : ∀ i, Z i → S i

structure Kept (c : Base) (w : World) : Prop where
  os : w.os = c.W.os
  tape : w.tape = c.W.tape
  output : w.output = c.W.output
  size : c.W.heap.size ≤ w.heap.size
  block : ∀ i, c.S i → w.heap[i]? = c.W.heap[i]?

theorem Kept.alloc {c : Base} {w : World} (k : Kept c w) (X : Obj) : Kept c (w.alloc X) := by
  refine ⟨k.os, k.tape, k.output, ?_, fun i hi => ?_⟩
  · have h1 := k.size
    have h2 : (w.alloc X).heap.size = w.heap.size + 1 := Array.size_push X
    omega
  · have h1 := c.lt i hi
    have h2 := k.size
    rw [heap_alloc_old w X (by omega)]
    exact k.block i hi

/-- How an abstract heap stands for a world; c: what stays. -/
structure Rel (c : Base) (g : G) (h : H) (w : World) : Prop where
  dom : ∀ b o, h.get b = some o → b < h.next
  obj : ∀ b o, h.get b = some o → ∃ X, w.heap[g.ι b]? = some X ∧ ORel g h.next (h.ro ≤ b) (g.κ b) o X
  inj : ∀ b b' o o', h.get b = some o → h.get b' = some o' → g.ι b = g.ι b' → b = b'
  own : ∀ b o, h.get b = some o → h.ro ≤ b → ¬ c.S (g.ι b)
  bel : Kept c w
  typ : ∀ b t m, h.ty b = some (t, m) → b < h.next ∧ ∀ o, h.get b = some o → ∃ C fr, w.heap[g.ι b]? = some (.cells C t fr) ∧ ∀ n, m = some n → C.size = n
  hid : ∀ b o, h.get b = some o → ¬ c.Z (g.ι b)

def setNew (g : G) (b i k : Nat) : G := { ι := fun c => if c = b then i else g.ι c, κ := fun c => if c = b then k else g.κ c }
theorem setNew_agree (g : G) (b i k : Nat) : Agree b g (setNew g b i k) := fun c hc => by
  have : ¬ c = b := by omega
  simp [setNew, this]

section
variable {c : Base} {g : G} {h : H} {w : World}

theorem Rel.drew (R : Rel c g h w) : Rel c g h w.drew :=
  ⟨R.dom, R.obj, R.inj, R.own, ⟨R.bel.os, R.bel.tape, R.bel.output, R.bel.size, R.bel.block⟩, R.typ, R.hid⟩

theorem Rel.lt (R : Rel c g h w) {b : Nat} {o : O} (hb : h.get b = some o) : g.ι b < w.heap.size := by
  obtain ⟨X, hX, _⟩ := R.obj b o hb
  exact (Array.getElem?_eq_some_iff.1 hX).1

/-- A new block. -/
theorem Rel.alloc (R : Rel c g h w) {o : O} {X : Obj} {k : Nat} (ho : ORel g h.next True k o X) :
    Rel c (setNew g h.next w.heap.size k) (h.alloc o) (w.alloc X) := by
  have hag := setNew_agree g h.next w.heap.size k
  have hle : h.next ≤ h.next + 1 := by omega
  have hnew : (setNew g h.next w.heap.size k).ι h.next = w.heap.size := by simp [setNew]
  have hk : (setNew g h.next w.heap.size k).κ h.next = k := by simp [setNew]
  have hget : ∀ b o', (h.alloc o).get b = some o' → (b = h.next ∧ o' = o) ∨ (b < h.next ∧ h.get b = some o') := by
    intro b o' hb
    by_cases e : b = h.next
    · subst e; simp [H.alloc] at hb; exact .inl ⟨rfl, hb.symm⟩
    · simp [H.alloc, e] at hb; exact .inr ⟨R.dom _ _ hb, hb⟩
  refine ⟨?_, ?_, ?_, ?_, ?_, ?_, ?_⟩
  · intro b o' hb
    rcases hget b o' hb with ⟨rfl, _⟩ | ⟨hlt, _⟩ <;> simp [H.alloc] <;> omega
  · intro b o' hb
    rcases hget b o' hb with ⟨rfl, rfl⟩ | ⟨hlt, hb'⟩
    · refine ⟨X, by rw [hnew]; exact heap_alloc_new w X, ?_⟩
      rw [hk]
      have := ho.mono hag hle
      cases o' with
      | cells l =>
        obtain ⟨cc, e, fr, h1, h2, h3, h4, h5⟩ := this
        exact ⟨cc, e, fr, h1, h2, fun _ => h3 trivial, h4, h5⟩
      | map l => exact this
    · obtain ⟨Y, hY, hO⟩ := R.obj b o' hb'
      refine ⟨Y, ?_, ?_⟩
      · rw [(hag b hlt).1, heap_alloc_old w X (R.lt hb')]; exact hY
      · rw [(hag b hlt).2]; exact hO.mono hag hle
  · intro b b' o1 o2 hb hb' e
    rcases hget b o1 hb with ⟨rfl, _⟩ | ⟨hlt, hb1⟩ <;> rcases hget b' o2 hb' with ⟨rfl, _⟩ | ⟨hlt', hb1'⟩
    · rfl
    · rw [hnew, (hag b' hlt').1] at e
      have := R.lt hb1'; omega
    · rw [hnew, (hag b hlt).1] at e
      have := R.lt hb1; omega
    · rw [(hag b hlt).1, (hag b' hlt').1] at e
      exact R.inj b b' o1 o2 hb1 hb1' e
  · intro b o' hb hro
    rcases hget b o' hb with ⟨rfl, _⟩ | ⟨hlt, hb1⟩
    · rw [hnew]; intro hS; have := c.lt _ hS; have := R.bel.size; omega
    · rw [(hag b hlt).1]; exact R.own b o' hb1 hro
  · exact R.bel.alloc X
  · intro b t n ht
    obtain ⟨hlt, hc⟩ := R.typ b t n ht
    refine ⟨by simp [H.alloc]; omega, fun o' ho' => ?_⟩
    rcases hget b o' ho' with ⟨rfl, _⟩ | ⟨_, hb'⟩
    · omega
    · obtain ⟨C, fr, h1, h2⟩ := hc o' hb'
      exact ⟨C, fr, by rw [(hag b hlt).1, heap_alloc_old w X (R.lt hb')]; exact h1, h2⟩
  · intro b o' hb
    rcases hget b o' hb with ⟨rfl, _⟩ | ⟨hlt, hb1⟩
    · rw [hnew]; intro hZ; have := c.lt _ (c.zs _ hZ); have := R.bel.size; omega
    · rw [(hag b hlt).1]; exact R.hid b o' hb1

/-- A new block, its type kept in mind. -/
theorem Rel.allocT (R : Rel c g h w) {o : O} {C : Array Value} {t : TypeId} {k : Nat} (ho : ORel g h.next True k o (.cells C t)) {tag : Option (Nat × Option Nat)} (htag : ∀ t' m, tag = some (t', m) → t' = t ∧ ∀ n, m = some n → C.size = n) :
    Rel c (setNew g h.next w.heap.size k) (h.allocT tag o) (w.alloc (.cells C t)) := by
  have R' := R.alloc ho
  refine ⟨R'.dom, R'.obj, R'.inj, R'.own, R'.bel, ?_, R'.hid⟩
  intro b t' m ht
  by_cases e : b = h.next
  · subst e
    simp only [H.allocT, if_true] at ht
    obtain ⟨rfl, hm⟩ := htag _ _ ht
    refine ⟨by simp [H.allocT], fun o' _ => ⟨C, (0, 0), ?_, hm⟩⟩
    simp only [setNew, if_true]
    exact heap_alloc_new w _
  · have ht' : (h.alloc o).ty b = some (t', m) := by simpa [H.allocT, H.alloc, e] using ht
    obtain ⟨q1, q2⟩ := R'.typ b t' m ht'
    exact ⟨q1, q2⟩

/-- A block is written. -/
theorem Rel.set (R : Rel c g h w) {b : Nat} {o o' : O} {X : Obj} {w' : World} (hb : h.get b = some o) (hro : h.ro ≤ b)
    (hw : w'.heap[g.ι b]? = some X) (hoth : ∀ k, k ≠ g.ι b → w'.heap[k]? = w.heap[k]?) (hsz : w.heap.size ≤ w'.heap.size)
    (hos : w'.os = w.os) (ht : w'.tape = w.tape) (hout : w'.output = w.output)
    (ho : ORel g h.next (h.ro ≤ b) (g.κ b) o' X) (hX : ∀ C t fr, w.heap[g.ι b]? = some (.cells C t fr) → ∃ C' fr', X = .cells C' t fr' ∧ C'.size = C.size) : Rel c g (h.upd b (some o')) w' := by
  have hget : ∀ d u, (h.upd b (some o')).get d = some u → (d = b ∧ u = o') ∨ (d ≠ b ∧ h.get d = some u) := by
    intro d u hd
    by_cases e : d = b
    · subst e; simp [H.upd] at hd; exact .inl ⟨rfl, hd.symm⟩
    · simp [H.upd, e] at hd; exact .inr ⟨e, hd⟩
  have hold : ∀ d u, (h.upd b (some o')).get d = some u → ∃ v, h.get d = some v := by
    intro d u hd
    rcases hget d u hd with ⟨rfl, _⟩ | ⟨_, hd'⟩
    · exact ⟨o, hb⟩
    · exact ⟨u, hd'⟩
  refine ⟨?_, ?_, ?_, ?_, ?_, ?_, fun d u hd => let ⟨v, hv⟩ := hold d u hd; R.hid d v hv⟩
  · intro d u hd
    obtain ⟨v, hv⟩ := hold d u hd
    exact R.dom d v hv
  · intro d u hd
    rcases hget d u hd with ⟨rfl, rfl⟩ | ⟨hne, hd'⟩
    · exact ⟨X, hw, ho⟩
    · obtain ⟨Y, hY, hO⟩ := R.obj d u hd'
      refine ⟨Y, ?_, hO⟩
      rw [hoth _ (fun e => hne (R.inj d b u o hd' hb e))]; exact hY
  · intro d d' u u' hd hd' e
    obtain ⟨v, hv⟩ := hold d u hd
    obtain ⟨v', hv'⟩ := hold d' u' hd'
    exact R.inj d d' v v' hv hv' e
  · intro d u hd hr
    obtain ⟨v, hv⟩ := hold d u hd
    exact R.own d v hv hr
  · have hge := R.own b o hb hro
    refine ⟨hos.trans R.bel.os, ht.trans R.bel.tape, hout.trans R.bel.output, Nat.le_trans R.bel.size hsz, fun i hi => ?_⟩
    rw [hoth i (fun e => hge (e ▸ hi))]; exact R.bel.block i hi
  · intro d t n hd
    obtain ⟨q1, q2⟩ := R.typ d t n hd
    refine ⟨q1, fun u hu => ?_⟩
    obtain ⟨v, hv⟩ := hold d u hu
    obtain ⟨C, fr, h1, h2⟩ := q2 v hv
    by_cases e : d = b
    · subst e
      obtain ⟨C', fr', rfl, h3⟩ := hX C t fr h1
      exact ⟨C', fr', hw, fun n hn => by rw [h3]; exact h2 n hn⟩
    · exact ⟨C, fr, by rw [hoth _ (fun e' => e (R.inj d b v o hv hb e'))]; exact h1, h2⟩

/-- A block is forgotten. -/
theorem Rel.kill (R : Rel c g h w) (b : Nat) : Rel c g (h.upd b none) w := by
  have hget : ∀ d u, (h.upd b none).get d = some u → h.get d = some u := by
    intro d u hd
    by_cases e : d = b
    · subst e; simp [H.upd] at hd
    · simpa [H.upd, e] using hd
  exact ⟨fun d u hd => R.dom d u (hget d u hd), fun d u hd => R.obj d u (hget d u hd), fun d d' u u' hd hd' e => R.inj d d' u u' (hget d u hd) (hget d' u' hd') e,
    fun d u hd hr => R.own d u (hget d u hd) hr, R.bel, fun d t n ht => ⟨(R.typ d t n ht).1, fun o ho => (R.typ d t n ht).2 o (hget d o ho)⟩, fun d u hd => R.hid d u (hget d u hd)⟩
end

end Go.Ab

/-! The abstract operations. -/
set_option linter.unusedVariables false
set_option linter.unusedSimpArgs false
namespace Go.Ab
open Go.RowKit

abbrev F := Nat → V
def F.put (f : F) (d : Option Nat) (v : V) : F := match d with
  | some t => fun n => if n = t then v else f n
  | none => f

inductive X where
  | t (n : Nat) | c (v : V) | f (k : Nat)

def rd (f : F) : X → V
  | .t n => f n
  | .c v => v
  | .f k => .fn k [] []

inductive COp where
  | mv (x : X)
  | pick (c a b : X)
  | alloc (t : Nat) (z : List V)
  | box (t : Nat) (x : X)
  | build (z : List V) (ps : List (Nat × Nat × X))
  | bslice (sz len : Nat) (z : List V) (ps : List (Nat × X))
  | load (n : Nat) (agg : Bool) (x : X)
  | store (n : Nat) (x y : X)
  | nilck (x : X)
  | bin (op : BinOp) (x y : X)
  | eqb (neg : Bool) (x y : X)
  | eqn (neg : Bool) (k : Nat) (x y : X)
  | eqa (neg : Bool) (ks : List Nat) (x y : X)
  | un (op : UnOp) (x : X)
  | toInt (k : IntKind) (x : X)
  | toStr (x : X)
  | b2s (x : X)
  | s2b (x : X)
  | mkI (t : Nat) (x : X)
  | mkF (f : Nat) (first cap : List X)
  | mkM
  | mkS (sz bytes : Nat) (z : List V) (l c : X)
  | sls (x : X) (lo hi : Option X)
  | slv (sz : Nat) (x : X) (lo hi mx : Option X)
  | fadr (off : Nat) (x : X)
  | fld (off n : Nat) (agg : Bool) (x : X)
  | iadr (sz : Nat) (x i : X)
  | iadrA (len sz : Nat) (x i : X)
  | idxS (x i : X)
  | idxA (len sz : Nat) (agg : Bool) (x i : X)
  | look (kk : Nat) (z : V) (ok : Bool) (x i : X)
  | mset (kk : Nat) (x k v : X)
  | tas (t : Nat) (z : V) (ok : Bool) (x : X)
  | ext (x : X) (i : Nat)
  | call (k : Nat) (xs : List X)
  | callV (x : X) (xs : List X)
  | lenS (x : X) | lenV (x : X) | lenM (x : X) | lenA (n : Nat)
  | app (e sz bytes : Nat) (z : List V) (x y : X)
  | appS (e : Nat) (x y : X)
  | copy (sz : Nat) (x y : X)
  | clr (sz : Nat) (z : List V) (x : X)
  | upt (x : X)
  | ufp (ts : List (Nat × Nat × Nat)) (x : X)
  | noe (x : X)
  | usd (x : X)
  | ustr (e : Nat) (x y : X)
  | rcv
  | dfr (x : X)
  | mx (x y : X) | mn (x y : X)
  | pan (x : X)

structure CI where
  dst : Option Nat
  op : COp
  after : List Nat
  guard : Option (Nat × Bool)

/-! ### Constants -/
mutual
def eqV : V → Value → Bool
  | .int k n, .int k' n' => k == k' && n == n'
  | .bool b, .bool b' => b == b'
  | .str l, .string s => l == s.data.toList
  | .ptr none, .pointer none => true
  | .sl none _ 0, .slice none 0 0 => true
  | .map none, .map none => true
  | .nilfn, .nilFunc => true
  | .nilifc, .nilIface => true
  | .agg l, .agg c => eqVs l c.toList
  | .tup l, .tuple c => eqVs l c.toList
  | .bot, _ => true
  | .ifc t v, .iface t' v' => t == t' && eqV v v'
  | _, _ => false
def eqVs : List V → List Value → Bool
  | [], [] => true
  | v :: vs, x :: xs => eqV v x && eqVs vs xs
  | _, _ => false
end

mutual
theorem eqV_rel {g : G} {N : Nat} : ∀ {v : V} {x : Value}, eqV v x = true → VRel g N v x
  | .bot, _, _ => by simp only [VRel]
  | .int k n, x, h => by cases x <;> simp [eqV] at h; simp [VRel, h.1, h.2]
  | .bool b, x, h => by cases x <;> simp [eqV] at h; simp [VRel, h]
  | .str l, x, h => by cases x <;> simp [eqV] at h; simp [VRel, h]
  | .ptr none, x, h => by
    cases x <;> try (simp [eqV] at h; done)
    rename_i a
    cases a <;> simp [eqV] at h
    simp [VRel]
  | .ptr (some _), x, h => by cases x <;> first | (simp [eqV] at h; done) | (rename_i a; cases a <;> simp [eqV] at h; done) | (rename_i a l c; cases a <;> cases l <;> cases c <;> simp [eqV] at h)
  | .sl none sz n, x, h => by
    cases x <;> try (simp [eqV] at h; done)
    rename_i a l c
    cases n with
    | zero =>
      cases a <;> cases l <;> cases c <;> simp [eqV] at h
      simp [VRel]
    | succ n => simp [eqV] at h
  | .sl (some _) _ _, x, h => by cases x <;> first | (simp [eqV] at h; done) | (rename_i a; cases a <;> simp [eqV] at h; done) | (rename_i a l c; cases a <;> cases l <;> cases c <;> simp [eqV] at h)
  | .sl0, x, h => by cases x <;> first | (simp [eqV] at h; done) | (rename_i a; cases a <;> simp [eqV] at h; done) | (rename_i a l c; cases a <;> cases l <;> cases c <;> simp [eqV] at h)
  | .sle, x, h => by cases x <;> first | (simp [eqV] at h; done) | (rename_i a; cases a <;> simp [eqV] at h; done) | (rename_i a l c; cases a <;> cases l <;> cases c <;> simp [eqV] at h)
  | .map none, x, h => by
    cases x <;> try (simp [eqV] at h; done)
    rename_i a
    cases a <;> simp [eqV] at h
    simp [VRel]
  | .map (some _), x, h => by cases x <;> first | (simp [eqV] at h; done) | (rename_i a; cases a <;> simp [eqV] at h; done) | (rename_i a l c; cases a <;> cases l <;> cases c <;> simp [eqV] at h)
  | .fn _ _ _, x, h => by cases x <;> first | (simp [eqV] at h; done) | (rename_i a; cases a <;> simp [eqV] at h; done) | (rename_i a l c; cases a <;> cases l <;> cases c <;> simp [eqV] at h)
  | .nilfn, x, h => by cases x <;> simp [eqV] at h; simp [VRel]
  | .ifc t v, x, h => by
    cases x <;> simp [eqV] at h
    simp only [VRel]
    exact ⟨_, by rw [h.1], eqV_rel h.2⟩
  | .nilifc, x, h => by cases x <;> simp [eqV] at h; simp [VRel]
  | .agg l, x, h => by
    cases x <;> simp [eqV] at h
    simp only [VRel]
    exact ⟨_, rfl, eqVs_rel h⟩
  | .tup l, x, h => by
    cases x <;> simp [eqV] at h
    simp only [VRel]
    exact ⟨_, rfl, eqVs_rel h⟩
theorem eqVs_rel {g : G} {N : Nat} : ∀ {v : List V} {x : List Value}, eqVs v x = true → VsRel g N v x
  | [], x, h => by cases x <;> simp [eqVs] at h; simp [VsRel]
  | v :: vs, x, h => by
    cases x <;> simp [eqVs] at h
    exact VsRel.cons (eqV_rel h.1) (eqVs_rel h.2)
end

/-! ### Frames -/
/-- How many temporaries there are; what is deferred. -/
structure NT where
  n : Nat
  ds : List Deferred

structure FRel (g : G) (N : Nat) (nt : NT) (f : F) (a : Act) : Prop where
  size : a.tmps.size = nt.n
  defers : a.defers = nt.ds
  val : ∀ t, VRel g N (f t) (a.tmps.getD t undef)

theorem FRel.mono {g g' : G} {N N' : Nat} {nt : NT} {f : F} {a : Act} (R : FRel g N nt f a) (ha : Agree N g g') (hn : N ≤ N') : FRel g' N' nt f a :=
  ⟨R.size, R.defers, fun t => (R.val t).mono ha hn⟩

theorem FRel.put {g : G} {N : Nat} {nt : NT} {f : F} {a : Act} (R : FRel g N nt f a) (d : Option Nat) (hd : ∀ t, d = some t → t < nt.n) {v : V} {x : Value} (hv : VRel g N v x) : FRel g N nt (f.put d v) (a.put d x) := by
  cases d with
  | none => exact R
  | some t =>
    have ht := hd t rfl
    refine ⟨by simp [Act.put, R.size], R.defers, fun n => ?_⟩
    by_cases e : n = t
    · subst e
      have hs : n < a.tmps.size := by rw [R.size]; exact ht
      simp [F.put, Act.put, Array.getD, hs, hv]
    · have h0 := R.val n
      simp only [F.put, e, if_false]
      have : (a.put (some t) x).tmps.getD n undef = a.tmps.getD n undef := by
        simp only [Act.put, Array.getD_eq_getD_getElem?]
        rw [Array.getElem?_setIfInBounds_ne (by omega)]
      rw [this]; exact h0

def chkX : Operand → X → Bool
  | .tmp t, .t n => t == n
  | .const v, .c v' => eqV v' v
  | .func f, .f k => f == k
  | _, _ => false

theorem chkX_rel {g : G} {N : Nat} {nt : NT} {f : F} {a : Act} (R : FRel g N nt f a) {o : Operand} {x : X} (h : chkX o x = true) : VRel g N (rd f x) (a.eval o) := by
  cases o <;> cases x <;> simp [chkX] at h
  · subst h; exact R.val _
  · exact eqV_rel h
  · subst h; simp [rd, Act.eval, VRel, VsRel]

def chkXs : List Operand → List X → Bool
  | [], [] => true
  | o :: os, x :: xs => chkX o x && chkXs os xs
  | _, _ => false

theorem chkXs_rel {g : G} {N : Nat} {nt : NT} {f : F} {a : Act} (R : FRel g N nt f a) : ∀ {os : List Operand} {xs : List X}, chkXs os xs = true → VsRel g N (xs.map (rd f)) (os.map a.eval)
  | [], [], _ => by simp [VsRel]
  | o :: os, x :: xs, h => by
    simp [chkXs] at h
    exact VsRel.cons (chkX_rel R h.1) (chkXs_rel R h.2)
  | [], _ :: _, h => by simp [chkXs] at h
  | _ :: _, [], h => by simp [chkXs] at h

def chkO : Option Operand → Option X → Bool
  | none, none => true
  | some o, some x => chkX o x
  | _, _ => false

/-! ### Results of an operation -/
inductive R where
  | val (v : V) (h : H)
  | unit (h : H)
  | call (k : Nat) (vs : List V)
  | panic (v : V)
  | bad

def H.load (h : H) (b o n : Nat) : Option (List V) := match h.get b with
  | some (.cells l) => if o + n ≤ l.length then some ((l.drop o).take n) else none
  | _ => none

def wr (l : List V) (o : Nat) (vs : List V) : List V := l.take o ++ vs ++ l.drop (o + vs.length)

def H.store (h : H) (b o : Nat) (vs : List V) : Option H := match h.get b with
  | some (.cells l) => if o + vs.length ≤ l.length ∧ h.ro ≤ b ∧ vs.all V.one = true then some (h.upd b (some (.cells (wr l o vs)))) else none
  | _ => none

def one? : List V → Option V
  | [v] => some v
  | _ => none

def ofV (h : H) : Option V → R
  | some v => .val v h
  | none => .bad
def ofH : Option H → R
  | some h => .unit h
  | none => .bad

def binI (op : BinOp) (k : IntKind) (x y : Int) : Option V :=
  match op with
  | .add => some (.int k (k.wrap (x + y)))
  | .sub => some (.int k (k.wrap (x - y)))
  | .mul => some (.int k (k.wrap (x * y)))
  | .quo => if y = 0 then none else some (.int k (k.wrap (x.tdiv y)))
  | .rem => if y = 0 then none else some (.int k (x.tmod y))
  | .and => some (.int k (k.wrap (BitVec.ofInt k.bits x &&& BitVec.ofInt k.bits y).toNat))
  | .or => some (.int k (k.wrap (BitVec.ofInt k.bits x ||| BitVec.ofInt k.bits y).toNat))
  | .xor => some (.int k (k.wrap (BitVec.ofInt k.bits x ^^^ BitVec.ofInt k.bits y).toNat))
  | .andNot => some (.int k (k.wrap (BitVec.ofInt k.bits x &&& ~~~(BitVec.ofInt k.bits y)).toNat))
  | .eql => some (.bool (x == y))
  | .neq => some (.bool (x != y))
  | .lss => some (.bool (x < y))
  | .leq => some (.bool (x ≤ y))
  | .gtr => some (.bool (x > y))
  | .geq => some (.bool (x ≥ y))
  | _ => none

def BIG : Nat := 9223372036854775807

def binS (op : BinOp) (x y : List UInt8) : Option V :=
  match op with
  | .add => if x.length + y.length ≤ BIG then some (.str (x ++ y)) else none
  | .eql => some (.bool (x == y))
  | .neq => some (.bool !(x == y))
  | .lss => some (.bool (Op.bytesLess x y))
  | .leq => some (.bool (Op.bytesLess x y || x == y))
  | .gtr => some (.bool !(Op.bytesLess x y || x == y))
  | .geq => some (.bool !(Op.bytesLess x y))
  | _ => none

def bin (op : BinOp) : V → V → Option V
  | .int k x, .int k' y => match op with
    | .shl => if y < 0 then none else some (.int k (k.wrap (x * 2 ^ min y.toNat k.bits)))
    | .shr => if y < 0 then none else some (.int k (x.fdiv (2 ^ min y.toNat k.bits)))
    | _ => if k = k' then binI op k x y else none
  | .str x, .str y => binS op x y
  | _, _ => none

def V.isNil : Nat → V → Option Bool
  | 0, .ptr a => some a.isNone
  | 1, .sl a _ _ => some a.isNone
  | 1, .sl0 => some false
  | 1, .sle => some false
  | 2, .map a => some a.isNone
  | 3, .nilfn => some true
  | 3, .fn _ _ _ => some false
  | 4, .nilifc => some true
  | 4, .ifc _ _ => some false
  | _, _ => none

def keyEq : Nat → V → V → Option Bool
  | 0, .int k x, .int k' y => if k = k' then some (x == y) else none
  | 1, .str x, .str y => some (x == y)
  | 2, .bool x, .bool y => some (x == y)
  | _, _, _ => none
def eqs? : List Nat → List V → List V → Option Bool
  | [], [], [] => some true
  | k :: ks, v :: vs, x :: xs => match keyEq k v x with
    | some b => match eqs? ks vs xs with
      | some c => some (b && c)
      | none => none
    | none => none
  | _, _, _ => none

def fillV (z : List V) : List (Nat × List V) → Option (List V)
  | [] => some z
  | (off, vs) :: rest => if off + vs.length ≤ z.length then fillV (wr z off vs) rest else none

def partsV (f : F) : List (Nat × Nat × X) → Option (List (Nat × List V))
  | [] => some []
  | (off, n, x) :: ps => match (rd f x).cells, partsV f ps with
    | some l, some r => if l.length = n then some ((off, l) :: r) else none
    | _, _ => none

def lo? (f : F) : Option X → Option Int → Option Int
  | none, d => d
  | some x, _ => match rd f x with
    | .int _ n => some n
    | _ => none

/-- The type of a row that has grown. -/
def newTag (h : H) (e b : Nat) : Option (Nat × Option Nat) := match h.ty b with
  | some (t, _) => if t = e then some (e, none) else none
  | none => none

def findV (kk : Nat) (k : V) : List (V × V) → Nat → Option (Option (Nat × V))
  | [], _ => some none
  | (k', v) :: l, i => match keyEq kk k k' with
    | some true => some (some (i, v))
    | some false => findV kk k l (i + 1)
    | none => none
def V.key : Nat → V → Bool
  | 0, .int _ _ => true
  | 1, .str _ => true
  | 2, .bool _ => true
  | _, _ => false

def u8s (l : List UInt8) : List V := l.map fun b => .int .u8 b.toNat

def bytes? : List V → Option (List UInt8)
  | [] => some []
  | .int .u8 n :: l => if 0 ≤ n ∧ n < 256 then (bytes? l).map (UInt8.ofNat n.toNat :: ·) else none
  | _ => none

def step (f : F) (h : H) : COp → R
  | .mv x => .val (rd f x) h
  | .pick c a b => match rd f c with
    | .bool t => .val (if t then rd f a else rd f b) h
    | _ => .bad
  | .alloc t z => .val (.ptr (some (h.next, 0))) (h.allocT (some (t, some z.length)) (.cells z))
  | .box t x => match (rd f x).cells with
    | some l => .val (.ptr (some (h.next, 0))) (h.allocT (some (t, some l.length)) (.cells l))
    | none => .bad
  | .build z ps => match partsV f ps with
    | some l => match fillV z l with
      | some r => .val (.agg r) h
      | none => .bad
    | none => .bad
  | .bslice sz len z ps => match partsV f (ps.map fun (i, x) => (i * sz, sz, x)) with
    | some l => match fillV (List.replicate len z).flatten l with
      | some r => .val (.sl (some (h.next, 0)) sz len) (h.alloc (.cells r))
      | none => .bad
    | none => .bad
  | .load n agg x => match rd f x with
    | .ptr (some (b, o)) => match h.load b o n with
      | some l => if agg then .val (.agg l) h else ofV h (one? l)
      | none => .bad
    | _ => .bad
  | .store n x y => match rd f x with
    | .ptr (some (b, o)) => match (rd f y).cells with
      | some vs => if vs.length = n then ofH (h.store b o vs) else .bad
      | none => .bad
    | _ => .bad
  | .nilck x => match rd f x with
    | .ptr (some a) => .val (.ptr (some a)) h
    | .sl a sz n => .val (.sl a sz n) h
    | .fn k l m => .val (.fn k l m) h
    | _ => .bad
  | .bin op x y => ofV h (bin op (rd f x) (rd f y))
  | .eqb neg x y => match rd f x, rd f y with
    | .bool a, .bool b => .val (.bool ((a == b) != neg)) h
    | _, _ => .bad
  | .eqn neg k x y => match (rd f x).isNil k, (rd f y).isNil k with
    | some a, some b => if a || b then .val (.bool ((a && b) != neg)) h else if k = 0 then (match rd f x, rd f y with
      | .ptr (some p), .ptr (some q) => if p = q then .val (.bool !neg) h else .bad
      | _, _ => .bad) else .bad
    | _, _ => .bad
  | .eqa neg ks x y => match rd f x, rd f y with
    | .agg a, .agg b => match eqs? ks a b with
      | some t => .val (.bool (t != neg)) h
      | none => .bad
    | _, _ => .bad
  | .un op x => match op, rd f x with
    | .neg, .int k n => .val (.int k (k.wrap (0 - n))) h
    | .xor, .int k n => .val (.int k (k.wrap (BitVec.ofInt k.bits (if k.signed then -1 else k.max) ^^^ BitVec.ofInt k.bits n).toNat)) h
    | .not, .bool b => .val (.bool !b) h
    | _, _ => .bad
  | .toInt k x => match rd f x with
    | .int _ n => .val (.int k (k.wrap n)) h
    | _ => .bad
  | .toStr x => match rd f x with
    | .str l => .val (.str l) h
    | _ => .bad
  | .b2s x => match rd f x with
    | .sl none _ n => if n = 0 then .val (.str []) h else .bad
    | .sl (some (b, o)) s n => match h.load b o n with
      | some l => match bytes? l with
        | some r => .val (.str r) h
        | none => .bad
      | none => .bad
    | _ => .bad
  | .mkI t x => .val (.ifc t (rd f x)) h
  | .mkF k l m => .val (.fn k (l.map (rd f)) (m.map (rd f))) h
  | .mkM => .val (.map (some h.next)) (h.alloc (.map []))
  | .mkS sz bytes z l c => match rd f l, rd f c with
    | .int .i64 n, .int .i64 m => if 0 ≤ n ∧ n = m ∧ n * bytes ≤ 140737488355328 ∧ n ≤ 140737488355328 then .val (.sl (some (h.next, 0)) sz n.toNat) (h.alloc (.cells (List.replicate n.toNat z).flatten)) else .bad
    | _, _ => .bad
  | .sls x lo hi => match rd f x with
    | .str l => match lo? f lo (some 0), lo? f hi (some l.length) with
      | some a, some b => if 0 ≤ a ∧ a ≤ b ∧ b ≤ l.length then .val (.str ((l.drop a.toNat).take (b.toNat - a.toNat))) h else .bad
      | _, _ => .bad
    | _ => .bad
  | .slv sz x lo hi mx => match rd f x, mx with
    | .sl (some (b, o)) s n, none => match lo? f lo (some 0), lo? f hi (some n) with
      | some p, some q => if s = sz ∧ 0 ≤ p ∧ p ≤ q ∧ q ≤ n then (if p = 0 then .val (.sl (some (b, o)) sz q.toNat) h else if p < n then .val (.sl (some (b, o + p.toNat * sz)) sz (q.toNat - p.toNat)) h else .val .sle h) else .bad
      | _, _ => .bad
    | .sl (some (b, o)) s n, some m => match lo? f lo (some 0), lo? f hi (some n), lo? f (some m) none with
      | some 0, some 0, some 0 => .val .sl0 h
      | _, _, _ => .bad
    | .sl none s n, _ => match lo? f lo (some 0), lo? f hi (some 0), lo? f mx (some 0) with
      | some 0, some 0, some 0 => .val (.sl none s 0) h
      | _, _, _ => .bad
    | _, _ => .bad
  | .fadr off x => match rd f x with
    | .ptr (some (b, o)) => .val (.ptr (some (b, o + off))) h
    | _ => .bad
  | .fld off n agg x => match rd f x with
    | .agg l => if off + n ≤ l.length then (if agg then .val (.agg ((l.drop off).take n)) h else ofV h (one? ((l.drop off).take n))) else .bad
    | _ => .bad
  | .iadr sz x i => match rd f x, rd f i with
    | .sl (some (b, o)) s n, .int _ j => if s = sz ∧ 0 ≤ j ∧ j < n then .val (.ptr (some (b, o + j.toNat * sz))) h else .bad
    | _, _ => .bad
  | .iadrA len sz x i => match rd f x, rd f i with
    | .ptr (some (b, o)), .int _ j => if 0 ≤ j ∧ j < len then .val (.ptr (some (b, o + j.toNat * sz))) h else .bad
    | _, _ => .bad
  | .idxS x i => match rd f x, rd f i with
    | .str l, .int _ j => if 0 ≤ j then (match l[j.toNat]? with
      | some c => .val (.int .u8 c.toNat) h
      | none => .bad) else .bad
    | _, _ => .bad
  | .idxA len sz agg x i => match rd f x, rd f i with
    | .agg l, .int _ j => if 0 ≤ j ∧ j < len ∧ j.toNat * sz + sz ≤ l.length then (if agg then .val (.agg ((l.drop (j.toNat * sz)).take sz)) h else ofV h (one? ((l.drop (j.toNat * sz)).take sz))) else .bad
    | _, _ => .bad
  | .look kk z ok x i => if (rd f i).key kk = false then .bad else match rd f x with
    | .map none => .val (if ok then .tup [z, .bool false] else z) h
    | .map (some r) => match h.get r with
      | some (.map l) => match findV kk (rd f i) l 0 with
        | some (some (_, v)) => .val (if ok then .tup [v, .bool true] else v) h
        | some none => .val (if ok then .tup [z, .bool false] else z) h
        | none => .bad
      | _ => .bad
    | _ => .bad
  | .mset kk x k v => if (rd f k).key kk = false then .bad else match rd f x with
    | .map (some r) => match h.get r with
      | some (.map l) => if h.ro ≤ r then (match findV kk (rd f k) l 0 with
        | some (some (i, _)) => .unit (h.upd r (some (.map (l.modify i fun e => (e.1, rd f v)))))
        | some none => .unit (h.upd r (some (.map (l ++ [(rd f k, rd f v)]))))
        | none => .bad) else .bad
      | _ => .bad
    | _ => .bad
  | .tas t z ok x => match rd f x with
    | .ifc u v => if u = t then .val (if ok then .tup [v, .bool true] else v) h else (if ok then .val (.tup [z, .bool false]) h else .bad)
    | .nilifc => if ok then .val (.tup [z, .bool false]) h else .bad
    | _ => .bad
  | .ext x i => match rd f x with
    | .tup l => ofV h l[i]?
    | _ => .bad
  | .call k xs => .call k (xs.map (rd f))
  | .callV x xs => match rd f x with
    | .fn k l m => .call k (l ++ xs.map (rd f) ++ m)
    | _ => .bad
  | .lenS x => match rd f x with
    | .str l => .val (.int .i64 l.length) h
    | _ => .bad
  | .lenV x => match rd f x with
    | .sl _ _ n => .val (.int .i64 n) h
    | .sl0 => .val (.int .i64 0) h
    | .sle => .val (.int .i64 0) h
    | _ => .bad
  | .lenM x => match rd f x with
    | .map none => .val (.int .i64 0) h
    | .map (some r) => match h.get r with
      | some (.map l) => .val (.int .i64 l.length) h
      | _ => .bad
    | _ => .bad
  | .lenA n => .val (.int .i64 n) h
  | .mx x y => match rd f x, rd f y with
    | .int k a, .int k' b => if k = k' then .val (.int k (if b > a then b else a)) h else .bad
    | _, _ => .bad
  | .mn x y => match rd f x, rd f y with
    | .int k a, .int k' b => if k = k' then .val (.int k (if b < a then b else a)) h else .bad
    | _, _ => .bad
  | .pan x => match rd f x with
    | .ifc t v => .panic (.ifc t v)
    | _ => .bad
  | .app e sz bytes z x y =>
    let news : Option (List V × Nat) := match rd f y with
      | .sl none _ n => if n = 0 then some ([], 0) else none
      | .sl0 => some ([], 0)
      | .sle => some ([], 0)
      | .sl (some (b, o)) s m => if s = sz then (match h.load b o (m * sz) with
        | some l => if l.all V.one then some (l, m) else none
        | none => none) else none
      | _ => none
    match news with
    | none => .bad
    | some (ns, m) => match rd f x with
      | .sl none _ n => if n = 0 ∧ m * bytes ≤ 140737488355328 ∧ m ≤ 140737488355328 then (if m = 0 then .val (.sl none sz 0) h else .val (.sl (some (h.next, 0)) sz m) (h.allocT (some (e, none)) (.cells ns))) else .bad
      | .sl0 => if m * bytes ≤ 140737488355328 ∧ m ≤ 140737488355328 then (if m = 0 then .val .sl0 h else .val (.sl (some (h.next, 0)) sz m) (h.allocT (some (e, none)) (.cells ns))) else .bad
      | .sl (some (b, 0)) s n => match h.get b with
        | some (.cells l) => if s = sz ∧ n * sz ≤ l.length ∧ h.ro ≤ b ∧ (n + m) * bytes ≤ 140737488355328 ∧ n + m ≤ 140737488355328 then .val (.sl (some (h.next, 0)) sz (n + m)) ((h.upd b none).allocT (newTag h e b) (.cells (l.take (n * sz) ++ ns))) else .bad
        | _ => .bad
      | _ => .bad
  | .appS e x y => match rd f y with
    | .str l => match rd f x with
      | .sl none _ n => if n = 0 ∧ l.length ≤ 140737488355328 then (if l.length = 0 then .val (.sl none 1 0) h else .val (.sl (some (h.next, 0)) 1 l.length) (h.allocT (some (e, none)) (.cells (u8s l)))) else .bad
      | .sl (some (b, 0)) s n => match h.get b with
        | some (.cells m) => if s = 1 ∧ n ≤ m.length ∧ h.ro ≤ b ∧ n + l.length ≤ 140737488355328 then .val (.sl (some (h.next, 0)) 1 (n + l.length)) ((h.upd b none).allocT (newTag h e b) (.cells (m.take n ++ u8s l))) else .bad
        | _ => .bad
      | _ => .bad
    | _ => .bad
  | .copy sz x y => match rd f x, rd f y with
    | .sl (some (b, o)) s n, .sl (some (b', o')) s' n' => if s = sz ∧ s' = sz then (match h.load b' o' (min n' n * sz) with
      | some l => match h.store b o l with
        | some h' => .val (.int .i64 (min n' n : Nat)) h'
        | none => .bad
      | none => .bad) else .bad
    | _, _ => .bad
  | .clr sz z x => match rd f x with
    | .sl none _ _ => .val (.tup []) h
    | .sl0 => .val (.tup []) h
    | .sle => .val (.tup []) h
    | .sl (some (b, o)) s n => if s = sz then (if n = 0 then .val (.tup []) h else match h.store b o (List.replicate n z).flatten with
      | some h' => .val (.tup []) h'
      | none => .bad) else .bad
    | _ => .bad
  | .upt x => match rd f x with
    | .ptr (some (b, o)) => match h.get b with
      | some (.cells l) => if o < l.length then .val (.ptr (some (b, o))) h else .bad
      | _ => .bad
    | _ => .bad
  | .ufp ts x => match rd f x with
    | .ptr (some (b, o)) => match h.ty b, h.get b with
      | some (t, some n), some (.cells _) => if ts.contains (t, n, o) = true then .val (.ptr (some (b, o))) h else .bad
      | _, _ => .bad
    | _ => .bad
  | .noe x => .val (rd f x) h
  | .usd x => match rd f x with
    | .sl none _ _ => .val (.ptr none) h
    | .sl (some (b, o)) _ n => if n = 0 then .bad else .val (.ptr (some (b, o))) h
    | _ => .bad
  | .ustr e x y => match rd f x, rd f y with
    | .ptr none, .int .i64 n => if n = 0 then .val (.str []) h else .bad
    | .ptr (some (b, 0)), .int .i64 (.ofNat n) => match h.ty b, h.load b 0 n with
      | some (t, _), some l => if t = e ∧ h.ro ≤ b ∧ n ≠ 0 ∧ n ≤ BIG then (match bytes? l with
        | some r => .val (.str r) (h.upd b none)
        | none => .bad) else .bad
      | _, _ => .bad
    | _, _ => .bad
  | _ => .bad

end Go.Ab

/-! Which abstract operation stands for which of the model's; that it does. -/
set_option linter.unusedVariables false
set_option linter.unusedSimpArgs false
namespace Go.Ab
open Go.RowKit

def szT (P : Program) (t : TypeId) : Option Nat := (P.info? t).map (·.size)
def byT (P : Program) (t : TypeId) : Option Nat := (P.info? t).map (·.bytes)
def zrT (P : Program) (t : TypeId) : Option Value := (P.info? t).bind (·.zero)
def aggT (P : Program) (t : TypeId) : Option Bool := (P.underlying t).map fun | .struct _ | .array _ _ => true | _ => false
def zeroIs (P : Program) (t : TypeId) (z : List V) : Bool := match zrT P t with
  | some v => eqVs z v.cells.toList
  | none => false
def elT (P : Program) (t : TypeId) : Option TypeId := match P.underlying t with
  | some (.slice e) => some e
  | _ => none

section
variable {P : Program} {w : World}
theorem szT_run {t : TypeId} {n : Nat} (h : szT P t = some n) : (sizeOf t).run P w = .ok n w := by
  unfold szT at h
  cases hi : P.info? t with
  | none => simp [hi] at h
  | some i => simp [hi] at h; simp [sizeOf, typeInfo, hi, h]
theorem zrT_run {t : TypeId} {z : Value} (h : zrT P t = some z) : (zeroValue t).run P w = .ok z w := by
  unfold zrT at h
  cases hi : P.info? t with
  | none => simp [hi] at h
  | some i => simp [hi] at h; simp [zeroValue, typeInfo, hi, h]
theorem aggT_run {t : TypeId} {b : Bool} (h : aggT P t = some b) : (isAgg t).run P w = .ok b w := by
  unfold aggT at h
  cases hi : P.underlying t with
  | none => simp [hi] at h
  | some i =>
    simp only [hi, Option.map_some, Option.some.injEq] at h
    subst h
    cases i <;> simp [isAgg, run_underlying hi]
theorem elT_run {t e : TypeId} (h : elT P t = some e) : P.underlying t = some (.slice e) := by
  unfold elT at h
  split at h <;> simp_all
theorem zeroIs_run {t : TypeId} {z : List V} (h : zeroIs P t z = true) : ∃ v, (zeroValue t).run P w = .ok v w ∧ ∀ g N, VsRel g N z v.cells.toList := by
  unfold zeroIs at h
  split at h
  · rename_i v hv
    exact ⟨v, zrT_run hv, fun g N => eqVs_rel h⟩
  · cases h
end

def callable (P : Program) (k : Nat) : Bool := match P.funcs[k]? with
  | some fn => fn.body.isSome && !(fn.name == "runtime.NumGoroutine")
  | none => false

theorem callable_run {P : Program} {w : World} {k : Nat} (h : callable P k = true) (args : Array Value) : (callFunc k args).run P w = .ok (.enter k args) w := by
  unfold callable at h
  split at h
  · rename_i fn hf
    simp only [Bool.and_eq_true, Bool.not_eq_true'] at h
    have h2 : ¬ fn.body = none := by cases hb : fn.body <;> simp_all
    have h3 : ¬ fn.name = "runtime.NumGoroutine" := by simpa using h.2
    simp [callFunc, hf, h3, h2]
  · cases h

/-- What an abstract result says of a run. -/
def Good (P : Program) (c : Base) (g : G) (h : H) (w : World) (s : Sem Next) : R → Prop
  | .val v h' => ∃ x w' g', s.run P w = .ok (.value x) w' ∧ Rel c g' h' w' ∧ VRel g' h'.next v x ∧ Agree h.next g g' ∧ h.next ≤ h'.next
  | .unit h' => ∃ w' g', s.run P w = .ok .skip w' ∧ Rel c g' h' w' ∧ Agree h.next g g' ∧ h.next ≤ h'.next
  | .call k vs => callable P k = true → ∃ xs, s.run P w = .ok (.enter k xs) w ∧ VsRel g h.next vs xs.toList
  | .panic v => ∃ x, s.run P w = .halt (.panic x) w ∧ VRel g h.next v x
  | .bad => True

section
variable {P : Program} {c : Base} {g : G} {h : H} {w : World} {nt : NT} {f : F} {a : Act}

theorem Good.pure {s : Sem Next} {v : V} {x : Value} (R : Rel c g h w) (hs : s.run P w = .ok (.value x) w) (hv : VRel g h.next v x) : Good P c g h w s (.val v h) :=
  ⟨x, w, g, hs, R, hv, Agree.refl _ _, Nat.le_refl _⟩

theorem Good.int {s : Sem Next} {k : IntKind} {n : Int} (R : Rel c g h w) (hs : s.run P w = .ok (.value (.int k n)) w) : Good P c g h w s (.val (.int k n) h) := Good.pure R hs (by simp only [VRel])
theorem Good.bool {s : Sem Next} {n : Bool} (R : Rel c g h w) (hs : s.run P w = .ok (.value (.bool n)) w) : Good P c g h w s (.val (.bool n) h) := Good.pure R hs (by simp only [VRel])
theorem Good.str {s : Sem Next} {n : List UInt8} (R : Rel c g h w) (hs : s.run P w = .ok (.value (.string ⟨n.toArray⟩)) w) : Good P c g h w s (.val (.str n) h) := Good.pure R hs (by simp only [VRel])

theorem Good.new {s : Sem Next} {l : List V} {X : Array Value} {e : TypeId} {v : V} {x : Value} (R : Rel c g h w) (hl : VsRel g h.next l X.toList)
    (hs : s.run P w = .ok (.value x) (w.alloc (.cells X e)))
    (hv : VRel (setNew g h.next w.heap.size X.size) (h.next + 1) v x) : Good P c g h w s (.val v (h.alloc (.cells l))) := by
  have hlen : l.length = X.size := by simpa using hl.length
  exact ⟨x, _, _, hs, R.alloc (k := X.size) ⟨X, e, (0, 0), rfl, rfl, fun _ => rfl, by omega, by rw [hlen, List.take_of_length_le (by simp)]; exact hl⟩, hv, setNew_agree _ _ _ _, by simp [H.alloc]⟩

theorem newPtr {n : Nat} : VRel (setNew g h.next w.heap.size n) (h.next + 1) (.ptr (some (h.next, 0))) (.pointer (some ⟨w.heap.size, 0, none⟩)) := by
  simp [VRel, setNew]

theorem run_newVar {t : TypeId} {v : Value} : (newVar t v).run P w = .ok ⟨w.heap.size, 0, none⟩ (w.alloc (.cells v.cells t)) := by
  simp [newVar, newRow]

theorem good_mv (R : Rel c g h w) (Fr : FRel g h.next nt f a) (o : Oper) (x : X) (y : Operand) (ho : o.op = .move y ∨ o.op = .assign y) (hx : chkX y x = true) :
    Good P c g h w (execOp a.eval o) (step f h (.mv x)) := by
  refine Good.pure R ?_ (chkX_rel Fr hx)
  rcases ho with ho | ho <;> simp [execOp, ho]

theorem good_pick (R : Rel c g h w) (Fr : FRel g h.next nt f a) (o : Oper) (x1 x2 x3 : X) (y1 y2 y3 : Operand) (ho : o.op = .pick y1 y2 y3) (h1 : chkX y1 x1 = true) (h2 : chkX y2 x2 = true) (h3 : chkX y3 x3 = true) :
    Good P c g h w (execOp a.eval o) (step f h (.pick x1 x2 x3)) := by
  simp only [step]
  split
  · rename_i t ht
    have e := chkX_rel Fr h1
    rw [ht] at e
    simp only [VRel] at e
    refine Good.pure (x := if t then a.eval y2 else a.eval y3) R (by simp [execOp, ho, e, asBool]) ?_
    cases t
    · exact chkX_rel Fr h3
    · exact chkX_rel Fr h2
  · trivial

theorem Good.newT {s : Sem Next} {l : List V} {X : Array Value} {t : TypeId} {v : V} {x : Value} (R : Rel c g h w) (hl : VsRel g h.next l X.toList)
    (hs : s.run P w = .ok (.value x) (w.alloc (.cells X t)))
    (hv : VRel (setNew g h.next w.heap.size X.size) (h.next + 1) v x) : Good P c g h w s (.val v (h.allocT (some (t, some l.length)) (.cells l))) := by
  have hlen : l.length = X.size := by simpa using hl.length
  rw [hlen]
  exact ⟨x, _, _, hs, R.allocT (o := .cells l) (k := X.size) ⟨X, t, (0, 0), rfl, rfl, fun _ => rfl, by omega, by rw [hlen, List.take_of_length_le (by simp)]; exact hl⟩ (fun t' m hm => by injection hm with hm; injection hm with q1 q2; exact ⟨q1.symm, fun n hn => by rw [← q2] at hn; injection hn⟩), hv, setNew_agree _ _ _ _, by simp [H.allocT]⟩

theorem good_alloc (R : Rel c g h w) (o : Oper) (z : List V) (t : TypeId) (ho : o.op = .alloc t) (hz : zeroIs P t z = true) :
    Good P c g h w (execOp a.eval o) (step f h (.alloc t z)) := by
  obtain ⟨v, hv, hr⟩ := zeroIs_run (w := w) hz
  exact Good.newT R (hr g h.next) (by simp [execOp, ho, Instr.alloc, hv, run_newVar]) newPtr

theorem good_box (R : Rel c g h w) (Fr : FRel g h.next nt f a) (o : Oper) (x : X) (t : TypeId) (y : Operand) (ho : o.op = .box t y) (hx : chkX y x = true) :
    Good P c g h w (execOp a.eval o) (step f h (.box t x)) := by
  simp only [step]
  split
  · rename_i l hl
    exact Good.newT R ((chkX_rel Fr hx).cells hl) (by simp [execOp, ho, Instr.box, run_newVar]) newPtr
  · trivial

theorem Rel.cells (R : Rel c g h w) {b : Nat} {l : List V} (hb : h.get b = some (.cells l)) {o n : Nat} (hn : o + n ≤ l.length) :
    ∃ xs, VsRel g h.next ((l.drop o).take n) xs ∧ xs.length = n ∧ ∀ (j : Nat) (u : Value), xs[j]? = some u → w.cell? ((⟨g.ι b, o, none⟩ : Addr).add j) = some u := by
  obtain ⟨X, hX, C, e, fr, rfl, hs, hfr, hlen, hrel⟩ := R.obj b _ hb
  refine ⟨((C.toList.take l.length).drop o).take n, (hrel.drop o).take n, by simp; omega, fun j u hu => ?_⟩
  have hadd : (⟨g.ι b, o, none⟩ : Addr).add j = ⟨g.ι b, o + j, none⟩ := by unfold Addr.add; split <;> simp_all
  rw [hadd]
  simp only [World.cell?, hX]
  have hj : j < n := by
    rcases Nat.lt_or_ge j n with h1 | h1
    · exact h1
    · rw [List.getElem?_eq_none (by simp; omega)] at hu; cases hu
  rw [List.getElem?_take_of_lt hj, List.getElem?_drop, List.getElem?_take_of_lt (by omega)] at hu
  simpa using hu

theorem load_some {b o n : Nat} {l : List V} (hl : h.load b o n = some l) : ∃ m, h.get b = some (.cells m) ∧ o + n ≤ m.length ∧ l = (m.drop o).take n := by
  unfold H.load at hl
  split at hl
  · rename_i m hm
    split at hl
    · rename_i hn
      simp at hl
      exact ⟨m, hm, hn, hl.symm⟩
    · cases hl
  · cases hl

theorem Rel.loadCells (R : Rel c g h w) {b o n : Nat} {l : List V} (hl : h.load b o n = some l) :
    ∃ X : Array Value, (loadCells ⟨g.ι b, o, none⟩ n).run P w = .ok X w ∧ VsRel g h.next l X.toList ∧ X.size = n := by
  obtain ⟨m, hm, hn, rfl⟩ := load_some hl
  obtain ⟨xs, h1, h2, h3⟩ := R.cells hm hn
  refine ⟨xs.toArray, ?_, by simpa using h1, by simpa using h2⟩
  have := run_loadCells_list (P := P) (w := w) ⟨g.ι b, o, none⟩ xs h3
  rw [h2] at this
  exact this

theorem one_some {l : List V} {v : V} (h : one? l = some v) : l = [v] := by
  unfold one? at h
  split at h <;> simp_all

theorem ofV_good {s : Sem Next} {v : Option V} (hv : ∀ u, v = some u → Good P c g h w s (.val u h)) : Good P c g h w s (ofV h v) := by
  cases v with
  | none => trivial
  | some u => exact hv u rfl

theorem good_load (R : Rel c g h w) (Fr : FRel g h.next nt f a) (o : Oper) (n : Nat) (agg : Bool) (x : X) (t : TypeId) (y : Operand) (ho : o.op = .load t y) (hx : chkX y x = true)
    (ha : aggT P t = some agg) (hn : agg = true → szT P t = some n) (h1 : agg = false → n = 1) :
    Good P c g h w (execOp a.eval o) (step f h (.load n agg x)) := by
  simp only [step]
  split
  · rename_i b off hp
    have e := chkX_rel Fr hx
    rw [hp] at e
    simp only [VRel] at e
    split
    · rename_i l hl
      cases agg with
      | true =>
        obtain ⟨X, hX, hr, _⟩ := R.loadCells (P := P) hl
        refine Good.pure (x := .agg X) R ?_ (by simp only [VRel]; exact ⟨X, rfl, hr⟩)
        simp [execOp, ho, e.2, Instr.loadAt, Instr.sureAddr, loadVar, aggT_run ha, szT_run (hn rfl), hX]
      | false =>
        obtain rfl := h1 rfl
        refine ofV_good fun u hu => ?_
        obtain rfl := one_some hu
        obtain ⟨m, hm, hlen, hl'⟩ := load_some hl
        obtain ⟨xs, h1, h2, h3⟩ := R.cells hm hlen
        rw [← hl'] at h1
        obtain ⟨y0, rfl⟩ : ∃ y0, xs = [y0] := by
          match xs, h2 with
          | [y0], _ => exact ⟨y0, rfl⟩
        have hc := h3 0 y0 rfl
        simp only [Addr.add, if_true] at hc
        refine Good.pure (x := y0) R ?_ ?_
        · simp [execOp, ho, e.2, Instr.loadAt, Instr.sureAddr, loadVar, aggT_run ha, hc]
        · simp only [VsRel] at h1
          obtain ⟨_, _, he, hv, _⟩ := h1
          injection he with he _
          rw [he]; exact hv
    · trivial
  · trivial

theorem Rel.store (R : Rel c g h w) {b off : Nat} {vs : List V} {xs : List Value} {h' : H} (hs : h.store b off vs = some h') (hv : VsRel g h.next vs xs) :
    ∃ w', (storeCells ⟨g.ι b, off, none⟩ xs).run P w = .ok () w' ∧ Rel c g h' w' ∧ h'.next = h.next := by
  unfold H.store at hs
  split at hs
  · rename_i l hl
    split at hs
    · rename_i hc
      injection hs with hs
      subst hs
      obtain ⟨h1, h2, h3⟩ := hc
      obtain ⟨Y, hY, C, el, fr, rfl, hs, hfr, hll, hrel⟩ := R.obj b _ hl
      obtain rfl := hfr h2
      have hvl := hv.length
      have hone : ∀ u ∈ xs, u.oneCell' = true := by
        intro u hu
        obtain ⟨i, hi, rfl⟩ := List.getElem_of_mem hu
        have hi' : i < vs.length := by omega
        obtain ⟨z, hz, hr⟩ := hv.get? (i := i) (u := vs[i]) (by simp [hi'])
        rw [List.getElem?_eq_getElem hi] at hz
        injection hz with hz
        rw [hz]
        exact hr.one (by rw [List.all_eq_true] at h3; exact h3 _ (by simp))
      have hrun := run_storeCells_at P (g.ι b) off el xs 0 C w hY (by omega) hone
      simp only [Nat.add_zero] at hrun
      refine ⟨_, hrun, R.set (o' := .cells (wr l off vs)) (X := .cells (C.toList.take off ++ xs ++ C.toList.drop (off + xs.length)).toArray el (0, 0)) hl h2
        (setRow_heap w _ C _ el _ hY) (fun k hk => setRow_other w _ k _ hk) (by simp) rfl rfl rfl ?_ ?_, rfl⟩
      · refine ⟨_, el, (0, 0), rfl, ?_, fun _ => rfl, ?_, ?_⟩
        · simp at hvl ⊢; omega
        · simp [wr] at hvl ⊢; omega
        · have hw2 : (wr l off vs).length = l.length := by simp [wr]; omega
          rw [hw2]
          have e1 : (C.toList.take off ++ xs ++ C.toList.drop (off + xs.length)).take l.length = (C.toList.take l.length).take off ++ xs ++ (C.toList.take l.length).drop (off + vs.length) := by
            rw [← hvl, List.take_append, List.take_append]
            simp only [List.length_append, List.length_take, ← hvl]
            have q1 : min off C.toList.length = off := by simp; omega
            rw [q1, List.take_take, List.take_take]
            congr 1
            · congr 1
              · congr 1; omega
              · rw [List.take_of_length_le (by omega)]
            · rw [List.drop_take]
          simp only [e1]
          exact ((hrel.take off).append hv).append (hrel.drop (off + vs.length))
      · intro C' t fr hh
        rw [hY] at hh
        injection hh with hh
        injection hh with q1 q2 q3
        subst q1; subst q2; subst q3
        exact ⟨_, _, rfl, by simp; omega⟩
    · cases hs
  · cases hs

theorem good_store (R : Rel c g h w) (Fr : FRel g h.next nt f a) (o : Oper) (n : Nat) (x x' : X) (t : TypeId) (y y' : Operand) (ho : o.op = .store t y y') (hx : chkX y x = true) (hx' : chkX y' x' = true)
    (hn : szT P t = some n) : Good P c g h w (execOp a.eval o) (step f h (.store n x x')) := by
  simp only [step]
  split
  · rename_i b off hp
    have e := chkX_rel Fr hx
    rw [hp] at e
    simp only [VRel] at e
    split
    · rename_i vs hvs
      have hv := (chkX_rel Fr hx').cells hvs
      split
      · rename_i hlen
        unfold ofH
        split
        · rename_i h' hst
          obtain ⟨w', hrun, R', hnx⟩ := R.store (P := P) hst hv
          have hvl := hv.length
          refine ⟨w', g, ?_, R', Agree.refl _ _, by omega⟩
          have hsz : ¬ ((a.eval y').cells.size ≠ n) := by simp at hvl; omega
          simp [execOp, ho, e.2, Instr.storeAt, Instr.sureAddr, storeVar, szT_run hn, hrun]
          simp at hsz
          simp [hsz]
        · trivial
      · trivial
    · trivial
  · trivial

theorem good_nilck (R : Rel c g h w) (Fr : FRel g h.next nt f a) (o : Oper) (x : X) (y : Operand) (ho : o.op = .nilCheck y) (hx : chkX y x = true) :
    Good P c g h w (execOp a.eval o) (step f h (.nilck x)) := by
  simp only [step]
  have e := chkX_rel Fr hx
  split
  · rename_i p hp
    rw [hp] at e
    refine Good.pure (x := a.eval y) R ?_ e
    obtain ⟨b, off⟩ := p
    simp only [VRel] at e
    simp [execOp, ho, e.2]
  · rename_i p sz n hp
    rw [hp] at e
    refine Good.pure (x := a.eval y) R ?_ e
    cases p with
    | none => simp only [VRel] at e; simp [execOp, ho, e.2]
    | some p =>
      obtain ⟨b, off⟩ := p
      simp only [VRel] at e
      obtain ⟨_, cc, _, _, _, e⟩ := e
      simp [execOp, ho, e]
  · rename_i k l m hp
    rw [hp] at e
    refine Good.pure (x := a.eval y) R ?_ e
    simp only [VRel] at e
    obtain ⟨C, D, e, _⟩ := e
    simp [execOp, ho, e]
  · trivial

theorem eqGuard_int (op : BinOp) (t : TypeId) (x y : Operand) (k k' : IntKind) (m n : Int) : (eqGuard op t x y (.int k m) (.int k' n)).run P w = .ok () w := by
  unfold eqGuard; cases op <;> simp
theorem eqGuard_str (op : BinOp) (t : TypeId) (x y : Operand) (m n : ByteArray) : (eqGuard op t x y (.string m) (.string n)).run P w = .ok () w := by
  unfold eqGuard; cases op <;> simp
theorem eqGuard_bool (op : BinOp) (t : TypeId) (x y : Operand) (m n : Bool) : (eqGuard op t x y (.bool m) (.bool n)).run P w = .ok () w := by
  unfold eqGuard; cases op <;> simp

theorem good_bin (R : Rel c g h w) (Fr : FRel g h.next nt f a) (o : Oper) (op : BinOp) (x x' : X) (t t' : TypeId) (y y' : Operand) (ho : o.op = .binOp op t y y' t') (hx : chkX y x = true) (hx' : chkX y' x' = true) :
    Good P c g h w (execOp a.eval o) (step f h (.bin op x x')) := by
  simp only [step]
  refine ofV_good fun u hu => ?_
  have e := chkX_rel Fr hx
  have e' := chkX_rel Fr hx'
  generalize rd f x = v at *
  generalize rd f x' = v' at *
  cases v <;> cases v' <;> simp only [bin] at hu <;> try (cases hu; done)
  · rename_i k m k' n
    simp only [VRel] at e e'
    by_cases hk : k = k'
    · subst hk
      cases op <;> simp only [binI, if_true, Option.some.injEq, reduceCtorEq] at hu <;>
        first
        | (subst hu; refine Good.int R ?_; simp [execOp, ho, e, e', eqGuard_int, binOp, Op.intArith, Op.intBits]; done)
        | (subst hu; refine Good.bool R ?_; simp [execOp, ho, e, e', eqGuard_int, binOp, Op.intCmp]; done)
        | (split at hu
           · cases hu
           · rename_i h0
             injection hu with hu
             subst hu
             refine Good.int R ?_
             simp [execOp, ho, e, e', eqGuard_int, binOp, Op.intDiv, Op.shift, h0])
    · cases op <;> simp only [hk, if_false, reduceCtorEq] at hu <;>
        (split at hu
         · cases hu
         · rename_i h0
           injection hu with hu
           subst hu
           refine Good.int R ?_
           simp [execOp, ho, e, e', eqGuard_int, binOp, Op.shift, h0])
  · rename_i m n
    simp only [VRel] at e e'
    cases op <;> simp only [binS, Option.some.injEq, reduceCtorEq] at hu <;>
      first
      | (subst hu; refine Good.bool R ?_; simp [execOp, ho, e, e', eqGuard_str, binOp, Op.stringOp]; done)
      | (split at hu
         · rename_i h0
           injection hu with hu
           subst hu
           refine Good.str R ?_
           have h1 : ¬ ((((⟨m.toArray⟩ : ByteArray).size + (⟨n.toArray⟩ : ByteArray).size : Nat) : Int) > IntKind.i64.max) := by
             have : IntKind.i64.max = 9223372036854775807 := rfl
             simp [ByteArray.size, this]; unfold BIG at h0; omega
           have h2 : (⟨m.toArray⟩ : ByteArray) ++ ⟨n.toArray⟩ = ⟨(m ++ n).toArray⟩ := by
             apply ByteArray.ext; simp
           simp only [execOp, ho, e, e', Sem.run_bind, eqGuard_str, Result.andThen_ok, binOp, Op.stringOp, h1, if_false, Sem.run_pure, h2]
         · cases hu)

theorem good_eqb (R : Rel c g h w) (Fr : FRel g h.next nt f a) (o : Oper) (neg : Bool) (x x' : X) (t t' : TypeId) (y y' : Operand) (ho : o.op = .binOp (if neg then .neq else .eql) t y y' t') (hx : chkX y x = true) (hx' : chkX y' x' = true)
    (ht : P.underlying t = some .bool) : Good P c g h w (execOp a.eval o) (step f h (.eqb neg x x')) := by
  simp only [step]
  have e := chkX_rel Fr hx
  have e' := chkX_rel Fr hx'
  split
  · rename_i m n h1 h2
    rw [h1] at e; rw [h2] at e'
    simp only [VRel] at e e'
    refine Good.bool R ?_
    have hb := run_equalIn_bool w 9999 t m n ht
    cases neg <;> simp [execOp, ho, e, e', eqGuard_bool, binOp, Op.equal, Op.maxDepth, hb]
  · trivial

end
end Go.Ab

set_option linter.unusedVariables false
set_option linter.unusedSimpArgs false
namespace Go.Ab
open Go.RowKit
section
variable {P : Program} {c : Base} {g : G} {h : H} {w : World} {nt : NT} {f : F} {a : Act}

def isConst : Operand → Bool
  | .const _ => true
  | _ => false

/-- May a value of this type be held against nil? -/
def nilT (P : Program) (t : TypeId) (k : Nat) (y y' : Operand) : Bool := match k, P.underlying t with
  | 0, some (.pointer e) => (P.info? e).isSome
  | 1, some (.slice _) => true
  | 2, some (.map _ _) => true
  | 3, some (.func _ _ _) => true
  | 4, some (.interface _) => isConst y || isConst y'
  | _, _ => false

/-- The model's value is nil, or is none. -/
inductive Nil : Nat → Bool → Value → Prop
  | p0 : Nil 0 true (.pointer none)
  | p1 (z : Addr) : Nil 0 false (.pointer (some z))
  | s0 (n k : Nat) : Nil 1 true (.slice none n k)
  | s1 (z : Addr) (n k : Nat) : Nil 1 false (.slice (some z) n k)
  | m0 : Nil 2 true (.map none)
  | m1 (z : Nat) : Nil 2 false (.map (some z))
  | f0 : Nil 3 true .nilFunc
  | f1 (x : Fn) (y z : Array Value) : Nil 3 false (.func x y z)
  | i0 : Nil 4 true .nilIface
  | i1 (t : Nat) (v : Value) : Nil 4 false (.iface t v)

theorem VRel.nil {N : Nat} {v : V} {x : Value} (hx : VRel g N v x) {k : Nat} {b : Bool} (hn : v.isNil k = some b) : Nil k b x := by
  unfold V.isNil at hn
  split at hn <;> simp only [Option.some.injEq, reduceCtorEq] at hn <;> subst hn
  · rename_i z; rcases z with _ | ⟨b, o⟩ <;> simp only [VRel] at hx
    · subst hx; exact .p0
    · obtain ⟨_, rfl⟩ := hx; exact .p1 _
  · rename_i z _ _; rcases z with _ | ⟨b, o⟩ <;> simp only [VRel] at hx
    · obtain ⟨_, rfl⟩ := hx; exact .s0 _ _
    · obtain ⟨_, c, _, _, _, rfl⟩ := hx; exact .s1 _ _ _
  · simp only [VRel] at hx; obtain ⟨_, rfl⟩ := hx; exact .s1 _ _ _
  · simp only [VRel] at hx; obtain ⟨_, _, rfl⟩ := hx; exact .s1 _ _ _
  · rename_i z; rcases z with _ | b <;> simp only [VRel] at hx
    · subst hx; exact .m0
    · obtain ⟨_, rfl⟩ := hx; exact .m1 _
  · simp only [VRel] at hx; subst hx; exact .f0
  · simp only [VRel] at hx; obtain ⟨_, _, rfl, _⟩ := hx; exact .f1 _ _ _
  · simp only [VRel] at hx; subst hx; exact .i0
  · simp only [VRel] at hx; obtain ⟨_, rfl, _⟩ := hx; exact .i1 _ _

theorem equalIn_nil (d : Nat) {t : TypeId} {k : Nat} {y y' : Operand} {p q : Bool} {m n : Value} (ht : nilT P t k y y' = true) (hm : Nil k p m) (hn : Nil k q n) (hpq : (p || q) = true) :
    (Op.equalIn (d + 1) t m n).run P w = .ok (p && q) w := by
  unfold nilT at ht
  split at ht <;> rename_i hu <;> first | (cases ht; done) | skip
  all_goals
    cases hm <;> cases hn <;> first | (simp at hpq; done) | skip
    all_goals
      rw [Op.equalIn]
      simp only [Sem.run_bind, run_underlying hu, Result.andThen_ok]
      rfl

theorem eqGuard_nil {op : BinOp} {t : TypeId} {k : Nat} {y y' : Operand} {p q : Bool} {m n : Value} (ht : nilT P t k y y' = true) (hm : Nil k p m) (hn : Nil k q n) :
    (eqGuard op t y y' m n).run P w = .ok () w := by
  have hc : ∀ z : Operand, isConst z = true → (match z with | .const _ => true | _ => false) = true := by intro z; cases z <;> simp [isConst]
  unfold nilT at ht
  split at ht <;> rename_i hu <;> first | (cases ht; done) | skip
  all_goals
    cases hm <;> cases hn <;> cases op <;> first | rfl | skip
  all_goals
    cases y <;> cases y' <;> first | rfl | (simp [isConst] at ht)

theorem run_eqn {neg : Bool} {t : TypeId} {k : Nat} {y y' : Operand} {p q : Bool} {m n : Value} (ht : nilT P t k y y' = true) (hm : Nil k p m) (hn : Nil k q n) (hpq : (p || q) = true) :
    (binOp (if neg then .neq else .eql) t m n).run P w = .ok (.bool ((p && q) != neg)) w := by
  have hk : ∀ z : Bool, (binOp (if z then .neq else .eql) t m n) = if z then (do pure (.bool (!(← Op.equal t m n)))) else (do pure (.bool (← Op.equal t m n))) := by
    intro z
    cases hm <;> cases hn <;> cases z <;> first | rfl | (simp at hpq)
  have he : (Op.equal t m n).run P w = .ok (p && q) w := equalIn_nil 9999 ht hm hn hpq
  rw [hk]
  cases neg <;> simp [he]

theorem run_eqp {neg : Bool} {t : TypeId} {y y' : Operand} {ad : Addr} (ht : nilT P t 0 y y' = true) :
    (binOp (if neg then .neq else .eql) t (.pointer (some ad)) (.pointer (some ad))).run P w = .ok (.bool (!neg)) w := by
  have hu : ∃ e, P.underlying t = some (.pointer e) ∧ (P.info? e).isSome = true := by
    unfold nilT at ht
    split at ht <;> rename_i hu <;> first | (exact ⟨_, hu, ht⟩) | (exfalso; omega) | (cases ht)
  obtain ⟨e, hu, ht⟩ := hu
  cases hj : P.info? e with
  | none => simp [hj] at ht
  | some j =>
    have h : ∀ d : Nat, (Op.equalIn (d + 1) t (.pointer (some ad)) (.pointer (some ad))).run P w = .ok true w := fun d => by
      simp [Op.equalIn, run_underlying hu, sizeOf, typeInfo, hj, run_sameAddr_same]
    have he : (Op.equal t (.pointer (some ad)) (.pointer (some ad))).run P w = .ok true w := h 9999
    cases neg
    · have : binOp .eql t (.pointer (some ad)) (.pointer (some ad)) = (do pure (.bool (← Op.equal t (.pointer (some ad)) (.pointer (some ad))))) := rfl
      simp [this, he]
    · have : binOp .neq t (.pointer (some ad)) (.pointer (some ad)) = (do pure (.bool (!(← Op.equal t (.pointer (some ad)) (.pointer (some ad)))))) := rfl
      simp [this, he]

theorem good_eqn (R : Rel c g h w) (Fr : FRel g h.next nt f a) (o : Oper) (neg : Bool) (k : Nat) (x x' : X) (t t' : TypeId) (y y' : Operand) (ho : o.op = .binOp (if neg then .neq else .eql) t y y' t') (hx : chkX y x = true) (hx' : chkX y' x' = true)
    (ht : nilT P t k y y' = true) : Good P c g h w (execOp a.eval o) (step f h (.eqn neg k x x')) := by
  simp only [step]
  split
  · rename_i p q hp hq
    split
    · rename_i hpq
      refine Good.bool R ?_
      have e1 := (chkX_rel Fr hx).nil hp
      have e2 := (chkX_rel Fr hx').nil hq
      have := run_eqn (w := w) (neg := neg) ht e1 e2 hpq
      simp [execOp, ho, eqGuard_nil ht e1 e2, this]
    · split
      · rename_i hk
        subst hk
        split
        · rename_i u v hu hv
          split
          · rename_i huv
            subst huv
            have e1 := chkX_rel Fr hx
            have e2 := chkX_rel Fr hx'
            rw [hu] at e1
            rw [hv] at e2
            obtain ⟨b, off⟩ := u
            simp only [VRel] at e1 e2
            refine Good.bool R ?_
            simp only [execOp, ho, Sem.run_bind, e1.2, e2.2]
            have hgd := eqGuard_nil (P := P) (w := w) (op := if neg then .neq else .eql) ht (.p1 ⟨g.ι b, off, none⟩) (.p1 ⟨g.ι b, off, none⟩)
            rw [hgd]
            simp only [Result.andThen_ok]
            rw [run_eqp ht]
            simp
          · trivial
        · trivial
      · trivial
  · trivial

/-! ### '==' on structs -/
mutual
def leafT (P : Program) : Nat → TypeId → Option (List Nat)
  | 0, _ => none
  | d + 1, t => match P.underlying t with
    | some .bool => some [2]
    | some (.int _) => some [0]
    | some .string => some [1]
    | some (.struct fs) => if P.stoodInHeld t then none else (match leafF P d fs.toList 0 with
      | some ks => if szT P t = some ks.length then some ks else none
      | none => none)
    | _ => none
def leafF (P : Program) : Nat → List Field → Nat → Option (List Nat)
  | 0, _, _ => none
  | _ + 1, [], _ => some []
  | d + 1, f :: fs, off => if f.name ≠ "_" ∧ f.offset = off then (match leafT P d f.type, leafF P d fs (off + (szT P f.type).getD 0) with
    | some k, some r => if szT P f.type = some k.length then some (k ++ r) else none
    | _, _ => none) else none
end

theorem good_un (R : Rel c g h w) (Fr : FRel g h.next nt f a) (o : Oper) (op : UnOp) (x : X) (t : TypeId) (y : Operand) (ho : o.op = .unOp op t y) (hx : chkX y x = true) :
    Good P c g h w (execOp a.eval o) (step f h (.un op x)) := by
  simp only [step]
  have e := chkX_rel Fr hx
  split
  · rename_i k n hv
    rw [hv] at e; simp only [VRel] at e
    exact Good.int R (by simp [execOp, ho, e, Op.unary, Op.intArith])
  · rename_i k n hv
    rw [hv] at e; simp only [VRel] at e
    exact Good.int R (by simp [execOp, ho, e, Op.unary, Op.intBits])
  · rename_i b hv
    rw [hv] at e; simp only [VRel] at e
    exact Good.bool R (by simp [execOp, ho, e, Op.unary])
  · trivial

theorem good_toInt (R : Rel c g h w) (Fr : FRel g h.next nt f a) (o : Oper) (k : IntKind) (x : X) (s t : TypeId) (y : Operand) (ho : o.op = .convert s t y) (hx : chkX y x = true)
    (hs : (P.underlying s).isSome = true) (ht : P.underlying t = some (.int k)) : Good P c g h w (execOp a.eval o) (step f h (.toInt k x)) := by
  simp only [step]
  have e := chkX_rel Fr hx
  obtain ⟨d, hd⟩ := Option.isSome_iff_exists.1 hs
  split
  · rename_i k' n hv
    rw [hv] at e; simp only [VRel] at e
    exact Good.int R (by simp [execOp, ho, e, convert, run_underlying hd, run_underlying ht, Conv.intToInt])
  · trivial

theorem good_toStr (R : Rel c g h w) (Fr : FRel g h.next nt f a) (o : Oper) (x : X) (s t : TypeId) (y : Operand) (ho : o.op = .convert s t y) (hx : chkX y x = true)
    (hs : (P.underlying s).isSome = true) (ht : P.underlying t = some .string) : Good P c g h w (execOp a.eval o) (step f h (.toStr x)) := by
  simp only [step]
  have e := chkX_rel Fr hx
  obtain ⟨d, hd⟩ := Option.isSome_iff_exists.1 hs
  split
  · rename_i l hv
    rw [hv] at e; simp only [VRel] at e
    exact Good.str R (by simp [execOp, ho, e, convert, run_underlying hd, run_underlying ht])
  · trivial

theorem good_mkI (R : Rel c g h w) (Fr : FRel g h.next nt f a) (o : Oper) (t : TypeId) (x : X) (y : Operand) (ho : o.op = .makeInterface t y) (hx : chkX y x = true) (ht : P.concrete t = true) :
    Good P c g h w (execOp a.eval o) (step f h (.mkI t x)) := by
  refine Good.pure (x := .iface t (a.eval y)) R ?_ (by simp only [VRel]; exact ⟨_, rfl, chkX_rel Fr hx⟩)
  simp [execOp, ho, run_makeInterface w t _ ht]

theorem good_mkF (R : Rel c g h w) (Fr : FRel g h.next nt f a) (o : Oper) (k : Nat) (l m : List X) (l' m' : Array Operand) (ho : o.op = .makeFunc (.func k) l' m') (hl : chkXs l'.toList l = true) (hm : chkXs m'.toList m = true) :
    Good P c g h w (execOp a.eval o) (step f h (.mkF k l m)) := by
  refine Good.pure (x := .func (.func k) (l'.map a.eval) (m'.map a.eval)) R (by simp [execOp, ho, Instr.makeFunc]) ?_
  simp only [VRel]
  exact ⟨_, _, rfl, by simpa using chkXs_rel Fr hl, by simpa using chkXs_rel Fr hm⟩

theorem good_mkM (R : Rel c g h w) (o : Oper) (t : TypeId) (ho : o.op = .makeMap t none) : Good P c g h w (execOp a.eval o) (step f h .mkM) := by
  refine ⟨.map (some w.heap.size), w.alloc (.map #[] 0), _, ?_, R.alloc (k := 0) (X := .map #[] 0) ⟨#[], 0, rfl, by simp [MRel]⟩, by simp [VRel, setNew, H.alloc], setNew_agree _ _ _ _, by simp [H.alloc]⟩
  simp [execOp, ho, Instr.makeMap]

theorem good_fadr (R : Rel c g h w) (Fr : FRel g h.next nt f a) (o : Oper) (off : Nat) (x : X) (s : TypeId) (y : Operand) (i : Nat) (ho : o.op = .fieldAddr s y i) (hx : chkX y x = true)
    (fs : Array Field) (fl : Field) (hs : P.underlying s = some (.struct fs)) (hf : fs[i]? = some fl) (hoff : fl.offset = off) (n : Nat) (hn : szT P fl.type = some n) (hn0 : n ≠ 0) :
    Good P c g h w (execOp a.eval o) (step f h (.fadr off x)) := by
  simp only [step]
  have e := chkX_rel Fr hx
  split
  · rename_i b o' hv
    rw [hv] at e; simp only [VRel] at e
    refine Good.pure (x := .pointer (some ⟨g.ι b, o' + off, none⟩)) R ?_ (by simp only [VRel]; exact ⟨e.1, trivial⟩)
    have hadd : (⟨g.ι b, o', none⟩ : Addr).add off = ⟨g.ι b, o' + off, none⟩ := by unfold Addr.add; split <;> simp_all
    simp [execOp, ho, e.2, Instr.fieldAt, run_underlying hs, hf, Instr.sureAddr, fieldPlace, szT_run hn, hn0, hoff, hadd]
  · trivial

theorem run_part {t : TypeId} {C : Array Value} {off n : Nat} {l : List V} {agg : Bool} (ha : aggT P t = some agg) (hn : agg = true → szT P t = some n) (h1 : agg = false → n = 1)
    (hr : VsRel g h.next l C.toList) (hl : off + n ≤ l.length) (R : Rel c g h w) {s : Sem Next} (hs : ∀ x, (part t C off).run P w = .ok x w → s.run P w = .ok (.value x) w) :
    Good P c g h w s (if agg then .val (.agg ((l.drop off).take n)) h else ofV h (one? ((l.drop off).take n))) := by
  have hd := (hr.drop off).take n
  cases agg with
  | true =>
    refine Good.pure (x := .agg (C.extract off (off + n))) R (hs _ (by simp [part, aggT_run ha, szT_run (hn rfl)])) ?_
    simp only [VRel]
    refine ⟨_, rfl, ?_⟩
    have : (C.extract off (off + n)).toList = (C.toList.drop off).take n := by simp [Array.toList_extract, List.extract_eq_take_drop]
    rw [this]; exact hd
  | false =>
    obtain rfl := h1 rfl
    refine ofV_good fun u hu => ?_
    have hu' := one_some hu
    rw [hu'] at hd
    simp only [VsRel] at hd
    obtain ⟨y, ys, he, hv, _⟩ := hd
    have hc : C[off]? = some y := by
      have := congrArg (fun z : List Value => z[0]?) he
      simpa using this
    exact Good.pure (x := y) R (hs _ (by simp [part, aggT_run ha, hc])) hv

theorem good_fld (R : Rel c g h w) (Fr : FRel g h.next nt f a) (o : Oper) (off n : Nat) (agg : Bool) (x : X) (s : TypeId) (y : Operand) (i : Nat) (ho : o.op = .field s y i) (hx : chkX y x = true)
    (fs : Array Field) (fl : Field) (hs : P.underlying s = some (.struct fs)) (hf : fs[i]? = some fl) (hoff : fl.offset = off) (ha : aggT P fl.type = some agg) (hn : agg = true → szT P fl.type = some n) (h1 : agg = false → n = 1) :
    Good P c g h w (execOp a.eval o) (step f h (.fld off n agg x)) := by
  simp only [step]
  have e := chkX_rel Fr hx
  split
  · rename_i l hv
    rw [hv] at e; simp only [VRel] at e
    obtain ⟨C, e, hr⟩ := e
    split
    · rename_i hlen
      exact run_part ha hn h1 hr hlen R (fun z hz => by simp [execOp, ho, e, Instr.field, run_underlying hs, hf, asAgg, hoff, hz])
    · trivial
  · trivial

theorem good_iadr (R : Rel c g h w) (Fr : FRel g h.next nt f a) (o : Oper) (sz : Nat) (x x' : X) (t e' : TypeId) (y y' : Operand) (ho : o.op = .indexAddr t y y') (hx : chkX y x = true) (hx' : chkX y' x' = true)
    (ht : elT P t = some e') (hs : szT P e' = some sz) : Good P c g h w (execOp a.eval o) (step f h (.iadr sz x x')) := by
  simp only [step]
  have e := chkX_rel Fr hx
  have e2 := chkX_rel Fr hx'
  split
  · rename_i b off s n k j hv hv2
    rw [hv] at e; rw [hv2] at e2; simp only [VRel] at e e2
    obtain ⟨hb, cc, h1, h2, h3, e⟩ := e
    split
    · rename_i hc
      obtain ⟨_, h4, h5⟩ := hc
      refine Good.pure (x := .pointer (some ⟨g.ι b, off + j.toNat * sz, none⟩)) R ?_ (by simp only [VRel]; exact ⟨hb, trivial⟩)
      have hadd : (⟨g.ι b, off, none⟩ : Addr).add (j.toNat * sz) = ⟨g.ι b, off + j.toNat * sz, none⟩ := by
        unfold Addr.add; split <;> simp_all
      simp [execOp, ho, e, e2, Instr.indexAt, asIntOf, run_underlying (elT_run ht), h4, h5, szT_run hs, hadd]
    · trivial
  · trivial

theorem good_iadrA (R : Rel c g h w) (Fr : FRel g h.next nt f a) (o : Oper) (len sz : Nat) (x x' : X) (t e' : TypeId) (y y' : Operand) (ho : o.op = .indexAddr t y y') (hx : chkX y x = true) (hx' : chkX y' x' = true)
    (ht : P.underlying t = some (.array len e')) (hs : szT P e' = some sz) : Good P c g h w (execOp a.eval o) (step f h (.iadrA len sz x x')) := by
  simp only [step]
  have e := chkX_rel Fr hx
  have e2 := chkX_rel Fr hx'
  split
  · rename_i b off k j hv hv2
    rw [hv] at e; rw [hv2] at e2; simp only [VRel] at e e2
    obtain ⟨hb, e⟩ := e
    split
    · rename_i hc
      obtain ⟨h4, h5⟩ := hc
      refine Good.pure (x := .pointer (some ⟨g.ι b, off + j.toNat * sz, none⟩)) R ?_ (by simp only [VRel]; exact ⟨hb, trivial⟩)
      have hadd : (⟨g.ι b, off, none⟩ : Addr).add (j.toNat * sz) = ⟨g.ι b, off + j.toNat * sz, none⟩ := by
        unfold Addr.add; split <;> simp_all
      simp [execOp, ho, e, e2, Instr.indexAt, asIntOf, run_underlying ht, h4, h5, szT_run hs, hadd, Instr.sureAddr]
    · trivial
  · trivial

theorem good_idxS (R : Rel c g h w) (Fr : FRel g h.next nt f a) (o : Oper) (x x' : X) (t : TypeId) (y y' : Operand) (ho : o.op = .index t y y') (hx : chkX y x = true) (hx' : chkX y' x' = true)
    (ht : P.underlying t = some .string) : Good P c g h w (execOp a.eval o) (step f h (.idxS x x')) := by
  simp only [step]
  have e := chkX_rel Fr hx
  have e2 := chkX_rel Fr hx'
  split
  · rename_i l k j hv hv2
    rw [hv] at e; rw [hv2] at e2; simp only [VRel] at e e2
    split
    · rename_i h0
      split
      · rename_i cc hcc
        refine Good.int R ?_
        have hb : (⟨l.toArray⟩ : ByteArray)[j.toNat]? = some cc := by
          obtain ⟨hlt, hg⟩ := List.getElem?_eq_some_iff.1 hcc
          have hs : j.toNat < (⟨l.toArray⟩ : ByteArray).size := by simpa [ByteArray.size] using hlt
          rw [getElem?_pos (⟨l.toArray⟩ : ByteArray) j.toNat hs, ← hg]
          rfl
        simp [execOp, ho, e, e2, Instr.index, asIntOf, run_underlying ht, h0, hb]
      · trivial
    · trivial
  · trivial

theorem good_idxA (R : Rel c g h w) (Fr : FRel g h.next nt f a) (o : Oper) (len sz : Nat) (agg : Bool) (x x' : X) (t e' : TypeId) (y y' : Operand) (ho : o.op = .index t y y') (hx : chkX y x = true) (hx' : chkX y' x' = true)
    (ht : P.underlying t = some (.array len e')) (hs : szT P e' = some sz) (ha : aggT P e' = some agg) (h1 : agg = false → sz = 1) : Good P c g h w (execOp a.eval o) (step f h (.idxA len sz agg x x')) := by
  simp only [step]
  have e := chkX_rel Fr hx
  have e2 := chkX_rel Fr hx'
  split
  · rename_i l k j hv hv2
    rw [hv] at e; rw [hv2] at e2; simp only [VRel] at e e2
    obtain ⟨C, e, hr⟩ := e
    split
    · rename_i hc
      obtain ⟨h4, h5, h6⟩ := hc
      exact run_part ha (fun _ => hs) h1 hr h6 R (fun z hz => by simp [execOp, ho, e, e2, Instr.index, asIntOf, run_underlying ht, h4, h5, szT_run hs, hz])
    · trivial
  · trivial

theorem good_ext (R : Rel c g h w) (Fr : FRel g h.next nt f a) (o : Oper) (x : X) (y : Operand) (i : Nat) (ho : o.op = .extract y i) (hx : chkX y x = true) :
    Good P c g h w (execOp a.eval o) (step f h (.ext x i)) := by
  simp only [step]
  have e := chkX_rel Fr hx
  split
  · rename_i l hv
    rw [hv] at e; simp only [VRel] at e
    obtain ⟨C, e, hr⟩ := e
    refine ofV_good fun u hu => ?_
    obtain ⟨z, hz, hvz⟩ := hr.get? hu
    have hz' : C[i]? = some z := by simpa using hz
    exact Good.pure (x := z) R (by simp [execOp, ho, e, Instr.extract, hz']) hvz
  · trivial

theorem good_call (R : Rel c g h w) (Fr : FRel g h.next nt f a) (o : Oper) (k : Nat) (xs : List X) (cl : Call) (ho : o.op = .call cl) (hc : cl.callee = .value (.func k)) (hx : chkXs cl.args.toList xs = true) :
    Good P c g h w (execOp a.eval o) (step f h (.call k xs)) := by
  intro hk
  refine ⟨cl.args.map a.eval, ?_, by simpa using chkXs_rel Fr hx⟩
  simp [execOp, ho, resolve, hc, Act.eval, Deferred.ofValue, invoke, callable_run hk]

theorem good_callV (R : Rel c g h w) (Fr : FRel g h.next nt f a) (o : Oper) (x : X) (xs : List X) (cl : Call) (y : Operand) (ho : o.op = .call cl) (hc : cl.callee = .value y) (hy : chkX y x = true) (hx : chkXs cl.args.toList xs = true) :
    Good P c g h w (execOp a.eval o) (step f h (.callV x xs)) := by
  simp only [step]
  have e := chkX_rel Fr hy
  split
  · rename_i k l m hv
    rw [hv] at e; simp only [VRel] at e
    obtain ⟨C, D, e, h1, h2⟩ := e
    intro hk
    refine ⟨C ++ cl.args.map a.eval ++ D, ?_, ?_⟩
    · simp [execOp, ho, resolve, hc, e, Deferred.ofValue, invoke, callable_run hk]
    · simpa using (h1.append (chkXs_rel Fr hx)).append h2
  · trivial

theorem good_pan (R : Rel c g h w) (Fr : FRel g h.next nt f a) (o : Oper) (x : X) (y : Operand) (hx : chkX y x = true)
    (ho : o.op = .panic y ∨ ∃ cl, o.op = .call cl ∧ cl.callee = .builtin .panic ∧ cl.args = #[y]) :
    Good P c g h w (execOp a.eval o) (step f h (.pan x)) := by
  simp only [step]
  have e := chkX_rel Fr hx
  split
  · rename_i t v hv
    rw [hv] at e
    refine ⟨a.eval y, ?_, e⟩
    simp only [VRel] at e
    obtain ⟨z, e, _⟩ := e
    rcases ho with ho | ⟨cl, ho, h1, h2⟩
    · simp [execOp, ho, e, Instr.panic]
    · simp [execOp, ho, h1, h2, e, Instr.panic, resolve, invoke, builtin]
  · trivial
end
end Go.Ab

set_option linter.unusedVariables false
set_option linter.unusedSimpArgs false
namespace Go.Ab
open Go.RowKit
section
variable {P : Program} {c : Base} {g : G} {h : H} {w : World} {nt : NT} {f : F} {a : Act}

theorem eqs_append : ∀ {ks ks' : List Nat} {l l' : List V} {b : Bool}, eqs? (ks ++ ks') l l' = some b →
    ∃ b1 b2, eqs? ks (l.take ks.length) (l'.take ks.length) = some b1 ∧ eqs? ks' (l.drop ks.length) (l'.drop ks.length) = some b2 ∧ b = (b1 && b2)
  | [], ks', l, l', b, h => ⟨true, b, by simp [eqs?], by simpa using h, by simp⟩
  | k :: ks, ks', [], _, b, h => by simp [eqs?] at h
  | k :: ks, ks', _ :: _, [], b, h => by simp [eqs?] at h
  | k :: ks, ks', v :: l, v' :: l', b, h => by
    simp only [List.cons_append, eqs?] at h
    split at h
    · rename_i q hq
      split at h
      · rename_i r hr
        obtain ⟨b1, b2, h1, h2, h3⟩ := eqs_append hr
        injection h with h
        refine ⟨q && b1, b2, by simp [eqs?, hq, h1], by simpa using h2, ?_⟩
        rw [← h, h3, Bool.and_assoc]
      · cases h
    · cases h

mutual
theorem eq_leaf : ∀ (d D : Nat) (t : TypeId) (ks : List Nat), leafT P d t = some ks → ∀ (C C' : Array Value) (l l' : List V) (off : Nat) (b : Bool), VsRel g h.next l C.toList → VsRel g h.next l' C'.toList → szT P t = some ks.length →
    off + ks.length ≤ l.length → off + ks.length ≤ l'.length → eqs? ks ((l.drop off).take ks.length) ((l'.drop off).take ks.length) = some b →
    ∃ u u', (part t C off).run P w = .ok u w ∧ (part t C' off).run P w = .ok u' w ∧ (Op.equalIn (D + d) t u u').run P w = .ok b w
  | 0, D, t, n, ht, _, _, _, _, _, _, _, _, _, _, _, _ => by simp [leafT] at ht
  | d + 1, D, t, ks, ht, C, C', l, l', off, b, hr, hr', hsz, hl, hl', hb => by
    have hd := (hr.drop off).take ks.length
    have hd' := (hr'.drop off).take ks.length
    have scalar : ∀ kk, ks = [kk] → aggT P t = some false → ∃ v v' u u', keyEq kk v v' = some b ∧ VRel g h.next v u ∧ VRel g h.next v' u' ∧ (part t C off).run P w = .ok u w ∧ (part t C' off).run P w = .ok u' w := by
      rintro kk rfl ha
      simp only [List.length_singleton] at *
      have e1 : ((l.drop off).take 1).length = 1 := by simp; omega
      have e2 : ((l'.drop off).take 1).length = 1 := by simp; omega
      obtain ⟨v, hv⟩ := List.length_eq_one_iff.1 e1
      obtain ⟨v', hv'⟩ := List.length_eq_one_iff.1 e2
      rw [hv] at hd hb; rw [hv'] at hd' hb
      simp only [VsRel] at hd hd'
      obtain ⟨u, us, hu, hvu, _⟩ := hd
      obtain ⟨u', us', hu', hvu', _⟩ := hd'
      have q1 := congrArg (fun z : List Value => z[0]?) hu
      have q2 := congrArg (fun z : List Value => z[0]?) hu'
      simp at q1 q2
      have hb' : keyEq kk v v' = some b := by
        simp only [eqs?] at hb
        split at hb
        · rename_i q hq; simp at hb; rw [hq, hb]
        · cases hb
      exact ⟨v, v', u, u', hb', hvu, hvu', by simp [part, aggT_run ha, q1], by simp [part, aggT_run ha, q2]⟩
    simp only [leafT] at ht
    split at ht
    · rename_i hu
      simp only [Option.some.injEq] at ht
      obtain ⟨v, v', u, u', hbb, hvu, hvu', p1, p2⟩ := scalar _ ht.symm (by simp [aggT, hu])
      refine ⟨u, u', p1, p2, ?_⟩
      unfold keyEq at hbb
      split at hbb <;> simp at hbb <;> rename_i hz <;> simp at hz
      simp only [VRel] at hvu hvu'; subst hvu; subst hvu'; subst hbb
      exact run_equalIn_bool w (D + d) t _ _ hu
    · rename_i k hu
      simp only [Option.some.injEq] at ht
      obtain ⟨v, v', u, u', hbb, hvu, hvu', p1, p2⟩ := scalar _ ht.symm (by simp [aggT, hu])
      refine ⟨u, u', p1, p2, ?_⟩
      unfold keyEq at hbb
      split at hbb <;> simp at hbb <;> rename_i hz <;> simp at hz
      simp only [VRel] at hvu hvu'; subst hvu; subst hvu'
      obtain ⟨rfl, rfl⟩ := hbb
      exact run_equalIn_int w (D + d) t _ _ _ _ hu
    · rename_i hu
      simp only [Option.some.injEq] at ht
      obtain ⟨v, v', u, u', hbb, hvu, hvu', p1, p2⟩ := scalar _ ht.symm (by simp [aggT, hu])
      refine ⟨u, u', p1, p2, ?_⟩
      unfold keyEq at hbb
      split at hbb <;> simp at hbb <;> rename_i hz <;> simp at hz
      simp only [VRel] at hvu hvu'; subst hvu; subst hvu'; subst hbb
      exact (run_equalIn_string w (D + d) t _ _ hu).trans (by simp)
    · rename_i fs hu
      split at ht
      · cases ht
      · rename_i hst
        split at ht
        · rename_i ks' hks
          split at ht
          · injection ht with ht
            subst ht
            refine ⟨.agg (C.extract off (off + ks'.length)), .agg (C'.extract off (off + ks'.length)), ?_, ?_, ?_⟩
            · simp [part, aggT_run (show aggT P t = some true by simp [aggT, hu]), szT_run hsz]
            · simp [part, aggT_run (show aggT P t = some true by simp [aggT, hu]), szT_run hsz]
            · have hfo : P.underlying t = some (.struct (P.fieldsOf t)) := by simp [Program.fieldsOf, hu]
              have hff : (P.fieldsOf t) = fs := by simp [Program.fieldsOf, hu]
              have e1 : VsRel g h.next ((l.drop off).take ks'.length) (C.extract off (off + ks'.length)).toList := by
                rw [Array.toList_extract, List.extract_eq_take_drop]; simpa using hd
              have e2 : VsRel g h.next ((l'.drop off).take ks'.length) (C'.extract off (off + ks'.length)).toList := by
                rw [Array.toList_extract, List.extract_eq_take_drop]; simpa using hd'
              have := eq_leafF d D fs.toList 0 ks' hks _ _ _ _ b e1 e2 (by simp; omega) (by simp; omega) (by simpa using hb)
              have h2 := run_equalIn_struct w (D + d) t (C.extract off (off + ks'.length)) (C'.extract off (off + ks'.length)) hfo (by simpa using hst)
              rw [hff] at h2
              exact h2.trans this
          · cases ht
        · cases ht
    · cases ht
theorem eq_leafF : ∀ (d D : Nat) (fs : List Field) (off : Nat) (ks : List Nat), leafF P d fs off = some ks → ∀ (C C' : Array Value) (l l' : List V) (b : Bool), VsRel g h.next l C.toList → VsRel g h.next l' C'.toList →
    off + ks.length ≤ l.length → off + ks.length ≤ l'.length → eqs? ks (l.drop off) (l'.drop off) = some b → (Op.eqFields (D + d) C C' fs).run P w = .ok b w
  | 0, D, fs, off, m, hf, _, _, _, _, _, _, _, _, _, _ => by simp [leafF] at hf
  | d + 1, D, [], off, ks, hf, C, C', l, l', b, hr, hr', _, _, hb => by
    simp [leafF] at hf
    subst hf
    have : b = true := by
      generalize l.drop off = p at hb
      generalize l'.drop off = q at hb
      cases p <;> cases q <;> simp [eqs?] at hb
      exact hb
    simp [Op.eqFields, this]
  | d + 1, D, f :: fs, off, ks, hf, C, C', l, l', b, hr, hr', hl, hl', hb => by
    simp only [leafF] at hf
    split at hf
    · rename_i hn
      split at hf
      · rename_i k r hk hr2
        split at hf
        · rename_i hsz
          injection hf with hf
          subst hf
          simp only [List.length_append] at hl hl'
          rw [hsz] at hr2
          simp only [Option.getD_some] at hr2
          obtain ⟨b1, b2, h1, h2, rfl⟩ := eqs_append hb
          obtain ⟨u, u', p1, p2, p3⟩ := eq_leaf d (D + 1) f.type k hk C C' l l' off b1 hr hr' hsz (by omega) (by omega) h1
          have p4 := eq_leafF d (D + 1) fs (off + k.length) r hr2 C C' l l' b2 hr hr' (by omega) (by omega) (by simpa [List.drop_drop] using h2)
          have e : D + (d + 1) = D + 1 + d := by omega
          rw [e]
          simp only [Op.eqFields, hn.1, ne_eq, not_false_eq_true, if_true, Sem.run_bind, hn.2, p1, p2, p3, Result.andThen_ok, Sem.run_ite, p4]
          cases b1 <;> simp
        · cases hf
      · cases hf
    · cases hf
end

theorem good_eqa (R : Rel c g h w) (Fr : FRel g h.next nt f a) (o : Oper) (neg : Bool) (ks : List Nat) (x x' : X) (t t' : TypeId) (y y' : Operand) (ho : o.op = .binOp (if neg then .neq else .eql) t y y' t') (hx : chkX y x = true) (hx' : chkX y' x' = true)
    (ht : leafT P 100 t = some ks) (hs : szT P t = some ks.length) (ha : aggT P t = some true) (hg : P.eqGuardType P.depth t = false) : Good P c g h w (execOp a.eval o) (step f h (.eqa neg ks x x')) := by
  simp only [step]
  have e := chkX_rel Fr hx
  have e' := chkX_rel Fr hx'
  split
  · rename_i l l' hv hv'
    rw [hv] at e; rw [hv'] at e'
    simp only [VRel] at e e'
    obtain ⟨C, e, hr⟩ := e
    obtain ⟨C', e', hr'⟩ := e'
    split
    · rename_i b hb
      have hlen : l.length = ks.length ∧ l'.length = ks.length := by
        clear ht hs hv hv' hr hr'
        induction ks generalizing l l' b with
        | nil => cases l <;> cases l' <;> simp [eqs?] at hb ⊢
        | cons k ks ih =>
          cases l <;> cases l' <;> simp [eqs?] at hb
          split at hb
          · split at hb
            · rename_i r hr
              have := ih _ _ _ hr
              simp [this.1, this.2]
            · cases hb
          · cases hb
      obtain ⟨u, u', p1, p2, p3⟩ := eq_leaf (w := w) 100 9900 t ks ht C C' l l' 0 b hr hr' hs (by omega) (by omega) (by rw [List.drop_zero, List.drop_zero, List.take_of_length_le (by omega), List.take_of_length_le (by omega)]; exact hb)
      have c1 : C.size = ks.length := by have := hr.length; simp at this; omega
      have c2 : C'.size = ks.length := by have := hr'.length; simp at this; omega
      have q1 : u = .agg C := by
        simp [part, aggT_run ha, szT_run hs] at p1
        rw [← p1, ← c1]; simp
      have q2 : u' = .agg C' := by
        simp [part, aggT_run ha, szT_run hs] at p2
        rw [← p2, ← c2]; simp
      rw [q1, q2] at p3
      have p3' : (Op.equalIn 10000 t (.agg C) (.agg C')).run P w = .ok b w := p3
      refine Good.bool R ?_
      cases neg <;> simp [execOp, ho, e, e', run_eqGuard_agg w _ t y y' C C' hg, run_eql_struct w, run_neq_struct w, p3']
    · trivial
  · trivial
end
end Go.Ab

set_option linter.unusedVariables false
set_option linter.unusedSimpArgs false
namespace Go.Ab
open Go.RowKit
section
variable {P : Program} {c : Base} {g : G} {h : H} {w : World} {nt : NT} {f : F} {a : Act}

/-! ### Literals -/
theorem foldl_set (vs : List Value) : ∀ (off i : Nat) (C : Array Value), off + i + vs.length ≤ C.size →
    ((vs.zipIdx i).foldl (fun cs (p : Value × Nat) => cs.setIfInBounds (off + p.2) p.1) C).toList = C.toList.take (off + i) ++ vs ++ C.toList.drop (off + i + vs.length) := by
  induction vs with
  | nil => intro off i C _; simp
  | cons v vs ih =>
    intro off i C hl
    simp only [List.length_cons] at hl
    rw [List.zipIdx_cons, List.foldl_cons, ih off (i + 1) _ (by simp; omega)]
    simp only [Array.toList_setIfInBounds]
    have hlen : off + i < C.toList.length := by simp; omega
    have e1 : (C.toList.set (off + i) v).take (off + (i + 1)) = C.toList.take (off + i) ++ [v] := by
      rw [show off + (i + 1) = (off + i) + 1 from by omega, List.take_succ_eq_append_getElem (by simpa using hlen)]
      rw [List.take_set_of_le (by omega)]
      simp
    have e2 : (C.toList.set (off + i) v).drop (off + (i + 1) + vs.length) = C.toList.drop (off + i + (vs.length + 1)) := by
      rw [List.drop_set_of_lt (by omega)]
      congr 1; omega
    rw [e1, e2]
    simp

theorem fill_rel (place : Nat → Option (Nat × Nat)) : ∀ (qs : List (Nat × Value)) (ps : List (Nat × List V)) (z r : List V) (C : Array Value),
    qs.length = ps.length → (∀ (j : Nat) (q : Nat × Value) (p : Nat × List V), qs[j]? = some q → ps[j]? = some p → place q.1 = some (p.1, p.2.length) ∧ VsRel g h.next p.2 q.2.cells.toList) →
    VsRel g h.next z C.toList → fillV z ps = some r → ∃ D, Instr.fill place C qs = some D ∧ VsRel g h.next r D.toList
  | [], [], z, r, C, _, _, hz, hr => by
    simp [fillV] at hr; subst hr; exact ⟨C, rfl, hz⟩
  | [], _ :: _, _, _, _, hl, _, _, _ => by simp at hl
  | _ :: _, [], _, _, _, hl, _, _, _ => by simp at hl
  | (i, v) :: qs, (off, vs) :: ps, z, r, C, hl, hp, hz, hr => by
    obtain ⟨h1, h2⟩ := hp 0 (i, v) (off, vs) rfl rfl
    simp only at h1 h2
    have hlen := h2.length
    have hzl := hz.length
    simp only [fillV] at hr
    split at hr
    · rename_i hfit
      simp at hlen hzl
      have e1 : ¬ (v.cells.size ≠ vs.length ∨ off + v.cells.size > C.size) := by omega
      have hf := foldl_set v.cells.toList off 0 C (by simp; omega)
      have hz' : VsRel g h.next (wr z off vs) (v.cells.zipIdx.foldl (fun cs (p : Value × Nat) => cs.setIfInBounds (off + p.2) p.1) C).toList := by
        have e3 : v.cells.zipIdx.foldl (fun cs (p : Value × Nat) => cs.setIfInBounds (off + p.2) p.1) C = (v.cells.toList.zipIdx 0).foldl (fun cs (p : Value × Nat) => cs.setIfInBounds (off + p.2) p.1) C := by
          rw [← Array.foldl_toList, Array.toList_zipIdx]
        rw [e3, hf]
        unfold wr
        refine (VsRel.append (VsRel.append ?_ h2) ?_)
        · simpa using hz.take off
        · have := hz.drop (off + vs.length)
          simpa [hlen] using this
      obtain ⟨D, hD, hrel⟩ := fill_rel place qs ps _ r _ (by simpa using hl) (fun j q p hq hpp => hp (j + 1) q p (by simpa using hq) (by simpa using hpp)) hz' hr
      refine ⟨D, ?_, hrel⟩
      simp only [Instr.fill, h1]
      rw [if_neg (by simpa using e1)]
      exact hD
    · cases hr

def chkParts (place : Nat → Option (Nat × Nat)) : List (Nat × Operand) → List (Nat × Nat × X) → Bool
  | [], [] => true
  | (i, y) :: qs, (off, n, x) :: ps => place i == some (off, n) && chkX y x && chkParts place qs ps
  | _, _ => false

theorem parts_rel (Fr : FRel g h.next nt f a) (place : Nat → Option (Nat × Nat)) : ∀ (qs : List (Nat × Operand)) (ps : List (Nat × Nat × X)) (l : List (Nat × List V)), chkParts place qs ps = true → partsV f ps = some l →
    qs.length = l.length ∧ ∀ (j : Nat) (q : Nat × Value) (p : Nat × List V), (qs.map fun (z : Nat × Operand) => (z.1, a.eval z.2))[j]? = some q → l[j]? = some p → place q.1 = some (p.1, p.2.length) ∧ VsRel g h.next p.2 q.2.cells.toList
  | [], [], l, _, hl => by simp [partsV] at hl; subst hl; simp
  | [], _ :: _, _, hc, _ => by simp [chkParts] at hc
  | _ :: _, [], _, hc, _ => by simp [chkParts] at hc
  | (i, y) :: qs, (off, n, x) :: ps, l, hc, hl => by
    simp only [chkParts, Bool.and_eq_true, beq_iff_eq] at hc
    simp only [partsV] at hl
    split at hl
    · rename_i m r hm hr
      split at hl
      · rename_i hn
        injection hl with hl
        subst hl
        obtain ⟨h1, h2⟩ := parts_rel Fr place qs ps r hc.2 hr
        refine ⟨by simp [h1], fun j q p hq hp => ?_⟩
        cases j with
        | zero =>
          simp at hq hp
          subst hq; subst hp
          exact ⟨by rw [hc.1.1, hn], (chkX_rel Fr hc.1.2).cells hm⟩
        | succ j => exact h2 j q p (by simpa using hq) (by simpa using hp)
      · cases hl
    · cases hl

def placeT (P : Program) (t : TypeId) : Option (Nat → Option (Nat × Nat)) := match P.underlying t with
  | some (.struct fs) => if fs.all (fun f => (szT P f.type).isSome) then some fun i => (fs[i]?).map fun f => (f.offset, (szT P f.type).getD 0) else none
  | some (.array _ e) => match szT P e with
    | some n => some fun i => some (i * n, n)
    | none => none
  | _ => none

theorem run_mapM (fs : List Field) (hf : fs.all (fun f => (szT P f.type).isSome) = true) : (fs.mapM (fun f => do pure (f.offset, ← sizeOf f.type)) : Sem (List (Nat × Nat))).run P w = .ok (fs.map fun f => (f.offset, (szT P f.type).getD 0)) w := by
  induction fs with
  | nil => simp
  | cons f fs ih =>
    simp only [List.all_cons, Bool.and_eq_true] at hf
    obtain ⟨n, hn⟩ := Option.isSome_iff_exists.1 hf.1
    have ih' := ih hf.2
    simp only [List.mapM_cons, Sem.run_bind, szT_run hn, Result.andThen_ok, Sem.run_pure, List.map_cons, hn, Option.getD_some]
    rw [ih']
    rfl

theorem good_build (R : Rel c g h w) (Fr : FRel g h.next nt f a) (o : Oper) (z : List V) (ps : List (Nat × Nat × X)) (t : TypeId) (qs : Array (Nat × Operand)) (ho : o.op = .build t qs) (hz : zeroIs P t z = true)
    (place : Nat → Option (Nat × Nat)) (hpl : placeT P t = some place) (hps : chkParts place qs.toList ps = true) : Good P c g h w (execOp a.eval o) (step f h (.build z ps)) := by
  obtain ⟨v, hv, hrz⟩ := zeroIs_run (w := w) hz
  simp only [step]
  split
  · rename_i l hl
    split
    · rename_i r hr
      obtain ⟨h1, h2⟩ := parts_rel Fr place qs.toList ps l hps hl
      obtain ⟨D, hD, hrel⟩ := fill_rel (g := g) (h := h) place _ l z r v.cells (by simpa using h1) h2 (hrz _ _) hr
      refine Good.pure (x := .agg D) R ?_ (by simp only [VRel]; exact ⟨D, rfl, hrel⟩)
      unfold placeT at hpl
      split at hpl
      · rename_i fs hu
        split at hpl
        · rename_i hall
          injection hpl with hpl
          subst hpl
          have hm : (fs.mapM (fun f => do pure (f.offset, ← sizeOf f.type)) : Sem (Array (Nat × Nat))).run P w = .ok (fs.map fun f => (f.offset, (szT P f.type).getD 0)) w := by
            rw [Array.mapM_eq_mapM_toList]
            have := run_mapM (P := P) (w := w) fs.toList (by simpa using hall)
            rw [Sem.run_map, this]
            simp only [Result.andThen_ok]
            congr 1
            apply Array.ext'
            simp
          have hplace : (fun (i : Nat) => (fs.map fun (f : Field) => (f.offset, (szT P f.type).getD 0))[i]?) = (fun (i : Nat) => (fs[i]?).map fun (f : Field) => (f.offset, (szT P f.type).getD 0)) := by
            funext i; simp
          simp only [execOp, ho, Instr.build, Sem.run_bind, hv, Result.andThen_ok, run_underlying hu, hm, hplace]
          have e1 : (qs.map fun (z : Nat × Operand) => (z.1, a.eval z.2)).toList = qs.toList.map fun (z : Nat × Operand) => (z.1, a.eval z.2) := by simp
          have hD' : Instr.fill (fun i => (fs[i]?).map fun (f : Field) => (f.offset, (szT P f.type).getD 0)) v.cells (qs.map fun (z : Nat × Operand) => (z.1, a.eval z.2)).toList = some D := by rw [e1]; exact hD
          simp only [hD']
          rfl
        · cases hpl
      · rename_i n e hu
        split at hpl
        · rename_i k hk
          injection hpl with hpl
          subst hpl
          simp only [execOp, ho, Instr.build, Sem.run_bind, hv, Result.andThen_ok, run_underlying hu, szT_run hk]
          have e1 : (qs.map fun (z : Nat × Operand) => (z.1, a.eval z.2)).toList = qs.toList.map fun (z : Nat × Operand) => (z.1, a.eval z.2) := by simp
          have hD' : Instr.fill (fun i => some (i * k, k)) v.cells (qs.map fun (z : Nat × Operand) => (z.1, a.eval z.2)).toList = some D := by rw [e1]; exact hD
          simp only [hD']
          rfl
        · cases hpl
      · cases hpl
    · trivial
  · trivial

theorem getElem?_rep {α : Type} (z : List α) : ∀ (n i : Nat), i < n * z.length → (List.replicate n z).flatten[i]? = z[i % z.length]?
  | 0, i, h => by omega
  | n + 1, i, h => by
    rw [List.replicate_succ, List.flatten_cons]
    by_cases hi : i < z.length
    · rw [List.getElem?_append_left hi, Nat.mod_eq_of_lt hi]
    · have h2 : (n + 1) * z.length = n * z.length + z.length := Nat.succ_mul _ _
      rw [List.getElem?_append_right (by omega), getElem?_rep z n _ (by omega), ← Nat.mod_eq_sub_mod (show i ≥ z.length by omega)]

theorem made_rel {z : List V} {Z : Array Value} (hz : VsRel g h.next z Z.toList) (n : Nat) : VsRel g h.next (List.replicate n z).flatten ((Array.range (n * Z.size)).map (Z[· % Z.size]!)).toList := by
  have hzl := hz.length
  simp at hzl
  refine VsRel.of_get (by simp [hzl]) fun i u y hu hy => ?_
  have hi : i < n * Z.size := by
    rcases Nat.lt_or_ge i (n * Z.size) with h1 | h1
    · exact h1
    · rw [List.getElem?_eq_none (by simp; omega)] at hy; cases hy
  have hpos : 0 < Z.size := by
    rcases Nat.eq_zero_or_pos Z.size with e | e
    · rw [e] at hi; omega
    · exact e
  rw [getElem?_rep z n i (by rw [hzl]; exact hi), hzl] at hu
  obtain ⟨q, hq, hr⟩ := hz.get? hu
  have hm : i % Z.size < Z.size := Nat.mod_lt _ hpos
  have : y = q := by
    simp only [Array.toList_map, List.getElem?_map, Array.toList_range, List.getElem?_range hi, Option.map_some, Option.some.injEq] at hy
    simp [hm] at hq
    rw [← hy, ← hq]
    simp [hm]
  rw [this]; exact hr

theorem good_bslice (R : Rel c g h w) (Fr : FRel g h.next nt f a) (o : Oper) (sz len : Nat) (z : List V) (ps : List (Nat × X)) (t e : TypeId) (qs : Array (Nat × Operand)) (ho : o.op = .buildSlice t len qs) (ht : elT P t = some e) (hs : szT P e = some sz) (hz : zeroIs P e z = true) (hzs : z.length = sz) (hs0 : 0 < sz)
    (hbig : len * sz ≤ 2 ^ 24) (hps : chkParts (fun i => some (i * sz, sz)) qs.toList (ps.map fun (p : Nat × X) => (p.1 * sz, sz, p.2)) = true) : Good P c g h w (execOp a.eval o) (step f h (.bslice sz len z ps)) := by
  obtain ⟨v, hv, hrz⟩ := zeroIs_run (w := w) hz
  simp only [step]
  split
  · rename_i l hl
    split
    · rename_i r hr
      obtain ⟨h1, h2⟩ := parts_rel Fr _ qs.toList _ l hps hl
      have hvs : v.cells.size = sz := by have := (hrz g h.next).length; simp at this; omega
      have hm := made_rel (g := g) (h := h) (hrz g h.next) len
      rw [hvs] at hm
      obtain ⟨D, hD, hrel⟩ := fill_rel (g := g) (h := h) (fun i => some (i * sz, sz)) (qs.toList.map fun (z : Nat × Operand) => (z.1, a.eval z.2)) l _ r _ (by simpa using h1) h2 hm hr
      have hDs : D.size = len * sz := by
        have q1 := hrel.length
        have : ∀ (ps : List (Nat × List V)) (z r : List V), fillV z ps = some r → r.length = z.length := by
          intro ps
          induction ps with
          | nil => intro z r hr; simp [fillV] at hr; rw [hr]
          | cons p ps ih =>
            intro z r hr
            obtain ⟨off, vs⟩ := p
            simp only [fillV] at hr
            split at hr
            · rw [ih _ _ hr]; simp [wr]; omega
            · cases hr
        have q2 := this _ _ _ hr
        simp at q1 q2
        rw [← q1, q2, hzs]
      refine Good.new R hrel (e := e) (x := .slice (some ⟨w.heap.size, 0, none⟩) len len) ?_ ?_
      · have e1 : (qs.map fun (z : Nat × Operand) => (z.1, a.eval z.2)).toList = qs.toList.map fun (z : Nat × Operand) => (z.1, a.eval z.2) := by simp
        have hD' : Instr.fill (fun i => some (i * sz, sz)) ((Array.range (len * sz)).map (v.cells[· % sz]!)) (qs.map fun (z : Nat × Operand) => (z.1, a.eval z.2)).toList = some D := by rw [e1]; exact hD
        have hb : ¬ (len * sz > 2 ^ 24) := by omega
        by_cases h0 : len * sz = 0
        · rw [h0] at hD
          have hz0 : (Array.range 0).map (fun x => v.cells[x % sz]!) = #[] := by apply Array.ext'; simp
          rw [hz0] at hD
          simp only [execOp, ho, Instr.buildSlice, Sem.run_bind, run_underlying (elT_run ht), Result.andThen_ok, szT_run hs, Sem.run_ite, hb, if_false, h0, if_true, Sem.run_pure]
          have hz1 : (Array.range 0).map (fun _ => (default : Value)) = #[] := by apply Array.ext'; simp
          simp [hz1, hD, newRow]
        · simp only [execOp, ho, Instr.buildSlice, Sem.run_bind, run_underlying (elT_run ht), Result.andThen_ok, szT_run hs, Sem.run_ite, hb, if_false, h0, hv, Sem.run_pure, hvs]
          simp [hD, newRow]
      · simp only [VRel]
        refine ⟨by omega, len, Nat.le_refl _, ?_, ?_, by simp [setNew]⟩
        · have : len ≤ len * sz := Nat.le_mul_of_pos_right _ hs0
          simp only [maxLen]; omega
        · simp [setNew, hDs]
    · trivial
  · trivial
end
end Go.Ab

set_option linter.unusedVariables false
set_option linter.unusedSimpArgs false
namespace Go.Ab
open Go.RowKit
section
variable {P : Program} {c : Base} {g : G} {h : H} {w : World} {nt : NT} {f : F} {a : Act}

theorem info_of {t : TypeId} {n : Nat} (h : szT P t = some n) : ∃ i, P.info? t = some i ∧ i.size = n := by
  unfold szT at h
  cases hi : P.info? t with
  | none => simp [hi] at h
  | some i => simp [hi] at h; exact ⟨i, rfl, h⟩

theorem zero_of {t : TypeId} {z : List V} {i : TypeInfo} (hi : P.info? t = some i) (h : zeroIs P t z = true) : ∃ v, i.zero = some v ∧ ∀ g N, VsRel g N z v.cells.toList := by
  unfold zeroIs at h
  split at h
  · rename_i v hv
    refine ⟨v, ?_, fun g N => eqVs_rel h⟩
    simpa [zrT, hi] using hv
  · cases h

theorem good_mkS (R : Rel c g h w) (Fr : FRel g h.next nt f a) (o : Oper) (sz bytes : Nat) (z : List V) (x x' : X) (t e : TypeId) (y y' : Operand) (ho : o.op = .makeSlice t y y') (hx : chkX y x = true) (hx' : chkX y' x' = true)
    (ht : elT P t = some e) (hs : szT P e = some sz) (hb : byT P e = some bytes) (hz : zeroIs P e z = true) (hzs : z.length = sz) (hs0 : 0 < sz) :
    Good P c g h w (execOp a.eval o) (step f h (.mkS sz bytes z x x')) := by
  simp only [step]
  have e1 := chkX_rel Fr hx
  have e2 := chkX_rel Fr hx'
  split
  · rename_i n m hn hm
    rw [hn] at e1; rw [hm] at e2
    simp only [VRel] at e1 e2
    split
    · rename_i hc
      obtain ⟨h0, rfl, h1, h2⟩ := hc
      obtain ⟨i, hi, hsz⟩ := info_of hs
      have hby : i.bytes = bytes := by simpa [byT, hi] using hb
      obtain ⟨v, hv, hrz⟩ := zero_of hi hz
      have hvs : v.cells.size = sz := by have := (hrz g h.next).length; simp at this; omega
      have hrun := run_make (P := P) w t e i v (elT_run ht) hi hv .i64 .i64 n n h0 (Int.le_refl _) (by rw [hby, Int.mul_comm]; omega) (by omega)
      rw [hsz] at hrun
      have hm' := made_rel (g := g) (h := h) (hrz g h.next) n.toNat
      rw [hvs] at hm'
      have hsize : (madeCells v.cells (n.toNat * sz)).size = n.toNat * sz := size_madeCells _ _
      refine Good.new R (X := madeCells v.cells (n.toNat * sz)) (e := e) (x := .slice (some ⟨w.heap.size, 0, none⟩) n.toNat n.toNat) ?_ ?_ ?_
      · unfold madeCells; rw [hvs]; exact hm'
      · simp [execOp, ho, e1, e2, hrun]
      · simp only [VRel]
        refine ⟨by omega, n.toNat, Nat.le_refl _, by simp only [maxLen]; omega, ?_, by simp [setNew]⟩
        simp [setNew, hsize]
    · trivial
  · trivial

theorem lo_cases (Fr : FRel g h.next nt f a) {o : Option Operand} {x : Option X} (hc : chkO o x = true) {d : Option Int} {p : Int} (hp : lo? f x d = some p) :
    (o = none ∧ x = none ∧ d = some p) ∨ ∃ y k, o = some y ∧ x ≠ none ∧ a.eval y = .int k p := by
  cases o with
  | none =>
    cases x with
    | none => exact .inl ⟨rfl, rfl, by simpa [lo?] using hp⟩
    | some x => simp [chkO] at hc
  | some y =>
    cases x with
    | none => simp [chkO] at hc
    | some x =>
      simp only [chkO] at hc
      have e := chkX_rel Fr hc
      simp only [lo?] at hp
      split at hp
      · rename_i k n hn
        rw [hn] at e; simp only [VRel] at e
        injection hp with hp
        subst hp
        exact .inr ⟨y, k, rfl, by simp, e⟩
      · cases hp

theorem run_bounds (Fr : FRel g h.next nt f a) {lo' hi' : Option Operand} {lo hi : Option X} (hlo : chkO lo' lo = true) (hhi : chkO hi' hi = true) {len cap : Nat} {p q : Int}
    (hp : lo? f lo (some 0) = some p) (hq : lo? f hi (some (len : Int)) = some q) (h0 : 0 ≤ p) (hpq : p ≤ q) (hqc : q ≤ (cap : Int)) (isS : Bool) :
    (Instr.sliceBounds isS len cap (lo'.map a.eval) (hi'.map a.eval) none).run P w = .ok (p.toNat, q.toNat, cap) w := by
  rcases lo_cases Fr hlo hp with ⟨rfl, rfl, h3⟩ | ⟨yl, kl, rfl, _, e3⟩ <;> rcases lo_cases Fr hhi hq with ⟨rfl, rfl, h4⟩ | ⟨yh, kh, rfl, _, e4⟩
  · simp at h3 h4; subst h3; subst h4
    simp [Instr.sliceBounds]
  · simp at h3; subst h3
    have r1 := fun code => run_sliceBound (P := P) w kh q cap code (by omega) hqc
    simp [Instr.sliceBounds, e4, r1]
  · simp at h4; subst h4
    have r1 := fun code => run_sliceBound (P := P) w kl p len code h0 hpq
    simp [Instr.sliceBounds, e3, r1]
  · have r1 := fun code => run_sliceBound (P := P) w kh q cap code (by omega) hqc
    have r2 := fun code => run_sliceBound (P := P) w kl p q.toNat code h0 (by omega)
    simp only [Instr.sliceBounds, Option.map_some, e3, e4, Sem.run_bind, Sem.run_pure, Result.andThen_ok, r1, r2]

theorem good_sls (R : Rel c g h w) (Fr : FRel g h.next nt f a) (o : Oper) (x : X) (lo hi : Option X) (t : TypeId) (y : Operand) (lo' hi' : Option Operand) (ho : o.op = .slice t y lo' hi' none) (hx : chkX y x = true) (hlo : chkO lo' lo = true) (hhi : chkO hi' hi = true)
    (ht : P.underlying t = some .string) : Good P c g h w (execOp a.eval o) (step f h (.sls x lo hi)) := by
  simp only [step]
  have e := chkX_rel Fr hx
  split
  · rename_i l hl
    rw [hl] at e; simp only [VRel] at e
    split
    · rename_i p q hp hq
      split
      · rename_i hc
        obtain ⟨h0, h1, h2⟩ := hc
        refine Good.str R ?_
        have hsz : (⟨l.toArray⟩ : ByteArray).size = l.length := by simp [ByteArray.size]
        have hext : (⟨l.toArray⟩ : ByteArray).extract p.toNat q.toNat = ⟨((l.drop p.toNat).take (q.toNat - p.toNat)).toArray⟩ := by
          apply ByteArray.ext
          apply Array.ext'
          simp [ByteArray.data_extract, List.extract_eq_take_drop]
        have hb := run_bounds (P := P) (w := w) Fr hlo hhi (cap := l.length) hp hq h0 h1 h2 false
        simp [execOp, ho, e, Instr.sliceAt, Instr.slice, run_underlying ht, hsz, hb, hext]
      · trivial
    · trivial
  · trivial

theorem add_at (b o n : Nat) : (⟨b, o, none⟩ : Addr).add n = ⟨b, o + n, none⟩ := by unfold Addr.add; split <;> simp_all

theorem good_slv (R : Rel c g h w) (Fr : FRel g h.next nt f a) (o : Oper) (sz : Nat) (x : X) (lo hi mx : Option X) (t e : TypeId) (y : Operand) (lo' hi' mx' : Option Operand) (ho : o.op = .slice t y lo' hi' mx') (hx : chkX y x = true) (hlo : chkO lo' lo = true) (hhi : chkO hi' hi = true) (hmx : chkO mx' mx = true)
    (ht : elT P t = some e) (hs : szT P e = some sz) (hsome : mx.isSome = true → hi.isSome = true) : Good P c g h w (execOp a.eval o) (step f h (.slv sz x lo hi mx)) := by
  simp only [step]
  have e := chkX_rel Fr hx
  have hu := elT_run ht
  split
  · rename_i b off s n hv
    rw [hv] at e; simp only [VRel] at e
    obtain ⟨hb, cc, h1, h2, h3, e⟩ := e
    have hm0 : mx' = none := by cases mx' with
      | none => rfl
      | some z => simp [chkO] at hmx
    subst hm0
    split
    · rename_i p q hp hq
      split
      · rename_i hc
        obtain ⟨rfl, h0, hpq, hqn⟩ := hc
        have hqc : q ≤ (cc : Int) := by omega
        have hb2 := run_bounds (P := P) (w := w) Fr hlo hhi (cap := cc) hp hq h0 hpq hqc true
        have key : (execOp a.eval o).run P w = .ok (.value (.slice (some (if cc = p.toNat then ⟨g.ι b, off, none⟩ else ⟨g.ι b, off + p.toNat * s, none⟩)) (q.toNat - p.toNat) (cc - p.toNat))) w := by
          simp only [execOp, ho, e, Instr.sliceAt, Instr.slice, Sem.run_bind, run_underlying hu, Result.andThen_ok, Option.map_none, hb2, szT_run hs, Sem.run_pure, Option.map_some, add_at]
          split <;> simp_all
        split
        · rename_i hp0
          subst hp0
          refine Good.pure R key ?_
          simp only [VRel]
          refine ⟨hb, cc, by omega, h2, h3, ?_⟩
          simp
        · rename_i hp0
          split
          · rename_i hpn
            have hne : ¬ cc = p.toNat := by omega
            rw [if_neg hne] at key
            refine Good.pure R key ?_
            simp only [VRel]
            refine ⟨hb, cc - p.toNat, by omega, by omega, ?_, rfl⟩
            rw [Nat.sub_mul]
            have : p.toNat * s ≤ cc * s := Nat.mul_le_mul_right _ (by omega)
            omega
          · have hz : q.toNat - p.toNat = 0 := by omega
            rw [hz] at key
            refine Good.pure R key ?_
            simp only [VRel]
            exact ⟨_, _, rfl⟩
      · trivial
    · trivial
  · rename_i b off s n m hv
    rw [hv] at e; simp only [VRel] at e
    obtain ⟨hb, cc, h1, h2, h3, e⟩ := e
    split
    · rename_i hp hq hm
      have hhs := hsome rfl
      rcases lo_cases Fr hmx hm with ⟨_, h5, _⟩ | ⟨ym, km, rfl, _, e5⟩
      · cases h5
      · rcases lo_cases Fr hhi hq with ⟨_, h6, _⟩ | ⟨yh, kh, rfl, _, e4⟩
        · rw [h6] at hhs; simp at hhs
        · refine Good.pure (x := .slice (some ⟨g.ι b, off, none⟩) 0 0) R ?_ (by simp only [VRel]; exact ⟨_, rfl⟩)
          rcases lo_cases Fr hlo hp with ⟨rfl, rfl, h3'⟩ | ⟨yl, kl, rfl, _, e3⟩
          · simp [execOp, ho, e, e4, e5, Instr.sliceAt, Instr.slice, run_underlying hu, Instr.sliceBounds, Instr.sliceBound, asIntOf, szT_run hs]
          · simp [execOp, ho, e, e3, e4, e5, Instr.sliceAt, Instr.slice, run_underlying hu, Instr.sliceBounds, Instr.sliceBound, asIntOf, szT_run hs]
    · trivial
  · rename_i s n hv
    rw [hv] at e; simp only [VRel] at e
    obtain ⟨_, e⟩ := e
    split
    · rename_i hp hq hm
      refine Good.pure (x := .slice none 0 0) R ?_ (by simp only [VRel]; exact ⟨trivial, trivial⟩)
      rcases lo_cases Fr hlo hp with ⟨rfl, rfl, h3'⟩ | ⟨yl, kl, rfl, _, e3⟩ <;> rcases lo_cases Fr hhi hq with ⟨rfl, rfl, h4⟩ | ⟨yh, kh, rfl, _, e4⟩ <;> rcases lo_cases Fr hmx hm with ⟨rfl, rfl, h5⟩ | ⟨ym, km, rfl, hmn, e5⟩
      all_goals first
        | (exfalso; obtain ⟨z, hz⟩ := Option.ne_none_iff_exists'.1 hmn; rw [hz] at hsome; simp at hsome; done)
        | (simp [execOp, ho, e, Instr.sliceAt, Instr.slice, run_underlying hu, Instr.sliceBounds, Instr.sliceBound, asIntOf, szT_run hs]; done)
        | (simp [execOp, ho, e, e3, Instr.sliceAt, Instr.slice, run_underlying hu, Instr.sliceBounds, Instr.sliceBound, asIntOf, szT_run hs]; done)
        | (simp [execOp, ho, e, e4, Instr.sliceAt, Instr.slice, run_underlying hu, Instr.sliceBounds, Instr.sliceBound, asIntOf, szT_run hs]; done)
        | (simp [execOp, ho, e, e3, e4, Instr.sliceAt, Instr.slice, run_underlying hu, Instr.sliceBounds, Instr.sliceBound, asIntOf, szT_run hs]; done)
        | (simp [execOp, ho, e, e4, e5, Instr.sliceAt, Instr.slice, run_underlying hu, Instr.sliceBounds, Instr.sliceBound, asIntOf, szT_run hs]; done)
        | (simp [execOp, ho, e, e3, e4, e5, Instr.sliceAt, Instr.slice, run_underlying hu, Instr.sliceBounds, Instr.sliceBound, asIntOf, szT_run hs]; done)
    · trivial
  · trivial
end
end Go.Ab

set_option linter.unusedVariables false
set_option linter.unusedSimpArgs false
namespace Go.Ab
open Go.RowKit
section
variable {P : Program} {c : Base} {g : G} {h : H} {w : World} {nt : NT} {f : F} {a : Act}

def keyT (P : Program) (kk : Nat) (t : TypeId) : Bool := match kk, P.underlying t with
  | 0, some (.int _) => true
  | 1, some .string => true
  | 2, some .bool => true
  | _, _ => false

theorem sameNow_of {kk : Nat} {t : TypeId} {d : TypeDesc} (hd : P.underlying t = some d) (ht : keyT P kk t = true) {v v' : V} {x x' : Value} (hv : VRel g h.next v x) (hv' : VRel g h.next v' x') {b : Bool} (hb : keyEq kk v v' = some b) :
    Instr.sameNow d x x' = some b := by
  unfold keyT at ht
  unfold keyEq at hb
  split at hb
  · split at hb
    · rename_i he
      subst he
      injection hb with hb
      simp only [VRel] at hv hv'
      subst hv; subst hv'; subst hb
      simp only [hd] at ht
      cases d <;> simp at ht
      simp [Instr.sameNow]
    · cases hb
  · injection hb with hb
    simp only [VRel] at hv hv'
    subst hv; subst hv'; subst hb
    simp only [hd] at ht
    cases d <;> simp at ht
    simp only [Instr.sameNow]
    rw [beq_toListBytes]
    simp
  · injection hb with hb
    simp only [VRel] at hv hv'
    subst hv; subst hv'; subst hb
    simp only [hd] at ht
    cases d <;> simp at ht
    simp [Instr.sameNow]
  · cases hb

theorem findNow_of {kk : Nat} {t : TypeId} {d : TypeDesc} (hd : P.underlying t = some d) (ht : keyT P kk t = true) {v : V} {x : Value} (hv : VRel g h.next v x) : ∀ {l : List (V × V)} {es : List MapEntry} (i : Nat) {r : Option (Nat × V)},
    MRel g h.next l es → findV kk v l i = some r → match r with
      | none => Instr.findNow d x es i = some none
      | some (j, u) => i ≤ j ∧ ∃ y k0, Instr.findNow d x es i = some (some (j, y)) ∧ VRel g h.next u y ∧ l[j - i]? = some (k0, u) ∧ keyEq kk v k0 = some true
  | [], es, i, r, hm, hf => by
    simp only [MRel] at hm
    subst hm
    simp [findV] at hf
    subst hf
    simp [Instr.findNow]
  | (k', u') :: l, es, i, r, hm, hf => by
    simp only [MRel] at hm
    obtain ⟨e, rest, rfl, hk, hu, hm⟩ := hm
    simp only [findV] at hf
    split at hf
    · rename_i hb
      injection hf with hf
      subst hf
      refine ⟨Nat.le_refl _, e.val, k', ?_, hu, by simp, hb⟩
      simp [Instr.findNow, sameNow_of hd ht hv hk hb]
    · rename_i hb
      have ih := findNow_of hd ht hv (i + 1) hm hf
      have e1 : Instr.findNow d x (e :: rest) i = Instr.findNow d x rest (i + 1) := by simp [Instr.findNow, sameNow_of hd ht hv hk hb]
      cases r with
      | none => simp only at ih ⊢; rw [e1]; exact ih
      | some p =>
        obtain ⟨j, u⟩ := p
        simp only at ih ⊢
        obtain ⟨h1, y, k0, h2, h3, h4, h5⟩ := ih
        refine ⟨by omega, y, k0, by rw [e1]; exact h2, h3, ?_, h5⟩
        rw [show j - i = (j - (i + 1)) + 1 from by omega]
        simpa using h4
    · cases hf

theorem checkKey_run {kk : Nat} {t : TypeId} (ht : keyT P kk t = true) (b : Bool) (x : Value) : (Instr.checkKey b 10000 t x).run P w = .ok () w := by
  unfold keyT at ht
  have : (10000 : Nat) = 9999 + 1 := rfl
  rw [this]
  generalize 9999 = d
  split at ht <;> first | (cases ht; done) | skip
  all_goals (rename_i hu; simp [Instr.checkKey, run_underlying hu])

theorem MRel.length {g : G} {N : Nat} : ∀ {l : List (V × V)} {es : List MapEntry}, MRel g N l es → l.length = es.length
  | [], _, h => by simp only [MRel] at h; simp [h]
  | (k, v) :: l, _, h => by
    simp only [MRel] at h
    obtain ⟨e, r, rfl, _, _, h4⟩ := h
    simp [MRel.length h4]

def mapT (P : Program) (t : TypeId) : Option (TypeId × TypeId) := match P.underlying t with
  | some (.map k e) => some (k, e)
  | _ => none
theorem mapT_run {t k e : TypeId} (h : mapT P t = some (k, e)) : P.underlying t = some (.map k e) := by
  unfold mapT at h
  split at h
  · simp at h; simp_all
  · cases h

theorem key_und {kk : Nat} {t : TypeId} (ht : keyT P kk t = true) : ∃ d, P.underlying t = some d := by
  unfold keyT at ht
  split at ht <;> first | (cases ht; done) | exact ⟨_, ‹_›⟩

theorem Rel.getMap (R : Rel c g h w) {r : Nat} {l : List (V × V)} (hr : h.get r = some (.map l)) : ∃ es clk, w.heap[g.ι r]? = some (.map es clk) ∧ MRel g h.next l es.toList := by
  obtain ⟨X, hX, es, clk, rfl, hm⟩ := R.obj r _ hr
  exact ⟨es, clk, hX, hm⟩

theorem run_getMap {r : Nat} {es : Array MapEntry} {clk : Nat} (hr : w.heap[r]? = some (.map es clk)) : (getObj r).run P w = .ok (.map es clk) w := by
  simp [getObj, Sem.run, hr]

theorem good_look (R : Rel c g h w) (Fr : FRel g h.next nt f a) (o : Oper) (kk : Nat) (z : V) (ok : Bool) (x x' : X) (t k e : TypeId) (y y' : Operand) (ho : o.op = .lookup t y y' ok) (hx : chkX y x = true) (hx' : chkX y' x' = true)
    (ht : mapT P t = some (k, e)) (hk : keyT P kk k = true) (zv : Value) (hz : zrT P e = some zv) (hzz : eqV z zv = true) : Good P c g h w (execOp a.eval o) (step f h (.look kk z ok x x')) := by
  simp only [step]
  have e1 := chkX_rel Fr hx
  have e2 := chkX_rel Fr hx'
  have hu := mapT_run ht
  obtain ⟨d, hd⟩ := key_und hk
  have hzv : VRel g h.next z zv := eqV_rel hzz
  have hzr := zrT_run (w := w) hz
  split
  · trivial
  · split
    · rename_i hv
      rw [hv] at e1; simp only [VRel] at e1
      have : Instr.findNow d (a.eval y') [] 0 = some none := rfl
      refine Good.pure (x := if ok then .tuple #[zv, .bool false] else zv) R ?_ ?_
      · simp [execOp, ho, e1, Instr.lookup, run_underlying hu, checkKey_run hk, Instr.findKey, run_underlying hd, this, hzr]
      · cases ok
        · exact hzv
        · simp only [VRel, if_true]
          exact ⟨_, rfl, VsRel.cons hzv (VsRel.cons (by simp only [VRel]) (by simp [VsRel]))⟩
    · rename_i r hv
      rw [hv] at e1; simp only [VRel] at e1
      split
      · rename_i l hl
        obtain ⟨es, clk, hes, hm⟩ := R.getMap hl
        have hg := run_getMap (P := P) hes
        split
        · rename_i j u hf
          have hfn := findNow_of hd hk e2 0 hm hf
          simp only at hfn
          obtain ⟨_, q, k0, hq, hvq, _⟩ := hfn
          refine Good.pure (x := if ok then .tuple #[q, .bool true] else q) R ?_ ?_
          · simp [execOp, ho, e1.2, Instr.lookup, run_underlying hu, hg, checkKey_run hk, Instr.findKey, run_underlying hd, hq]
          · cases ok
            · exact hvq
            · simp only [VRel, if_true]
              exact ⟨_, rfl, VsRel.cons hvq (VsRel.cons (by simp only [VRel]) (by simp [VsRel]))⟩
        · rename_i hf
          have hfn := findNow_of hd hk e2 0 hm hf
          simp only at hfn
          refine Good.pure (x := if ok then .tuple #[zv, .bool false] else zv) R ?_ ?_
          · simp [execOp, ho, e1.2, Instr.lookup, run_underlying hu, hg, checkKey_run hk, Instr.findKey, run_underlying hd, hfn, hzr]
          · cases ok
            · exact hzv
            · simp only [VRel, if_true]
              exact ⟨_, rfl, VsRel.cons hzv (VsRel.cons (by simp only [VRel]) (by simp [VsRel]))⟩
        · trivial
      · trivial
    · trivial

theorem MRel.push {g : G} {N : Nat} : ∀ {l : List (V × V)} {es : List MapEntry} {k v : V} {e : MapEntry}, MRel g N l es → VRel g N k e.key → VRel g N v e.val → MRel g N (l ++ [(k, v)]) (es ++ [e])
  | [], _, k, v, e, h, hk, hv => by simp only [MRel] at h; subst h; simp only [List.nil_append, MRel]; exact ⟨e, [], rfl, hk, hv, rfl⟩
  | (k', v') :: l, _, k, v, e, h, hk, hv => by
    simp only [MRel] at h
    obtain ⟨e', r, rfl, h1, h2, h3⟩ := h
    simp only [List.cons_append, MRel]
    exact ⟨e', r ++ [e], rfl, h1, h2, MRel.push h3 hk hv⟩

theorem MRel.modify {g : G} {N : Nat} : ∀ {l : List (V × V)} {es : List MapEntry} (j : Nat) {k0 u0 v : V} {kx x : Value}, MRel g N l es → l[j]? = some (k0, u0) → VRel g N k0 kx → VRel g N v x →
    MRel g N (l.modify j fun e => (e.1, v)) (es.modify j fun e => { e with key := kx, val := x })
  | [], _, j, _, _, _, _, _, h, hj, _, _ => by simp at hj
  | (k', v') :: l, _, 0, k0, u0, v, kx, x, h, hj, hk, hv => by
    simp only [MRel] at h
    obtain ⟨e', r, rfl, h1, h2, h3⟩ := h
    simp at hj
    obtain ⟨rfl, rfl⟩ := hj
    simp only [List.modify_zero_cons, MRel]
    exact ⟨_, r, rfl, hk, hv, h3⟩
  | (k', v') :: l, _, j + 1, k0, u0, v, kx, x, h, hj, hk, hv => by
    simp only [MRel] at h
    obtain ⟨e', r, rfl, h1, h2, h3⟩ := h
    simp only [List.modify_succ_cons, MRel]
    exact ⟨e', _, rfl, h1, h2, MRel.modify j h3 (by simpa using hj) hk hv⟩

theorem keyEq_true {kk : Nat} {v v' : V} (h : keyEq kk v v' = some true) : v = v' := by
  unfold keyEq at h
  split at h
  · split at h
    · rename_i he; simp at h; rw [he, h]
    · cases h
  · simp at h; rw [h]
  · simp at h; rw [h]
  · cases h

theorem good_mset (R : Rel c g h w) (Fr : FRel g h.next nt f a) (o : Oper) (kk : Nat) (x x' x'' : X) (t k e : TypeId) (y y' y'' : Operand) (ho : o.op = .mapUpdate t y y' y'' ∨ o.op = .insert t y y' y'') (hx : chkX y x = true) (hx' : chkX y' x' = true) (hx'' : chkX y'' x'' = true)
    (ht : mapT P t = some (k, e)) (hk : keyT P kk k = true) : Good P c g h w (execOp a.eval o) (step f h (.mset kk x x' x'')) := by
  simp only [step]
  have e1 := chkX_rel Fr hx
  have e2 := chkX_rel Fr hx'
  have e3 := chkX_rel Fr hx''
  have hu := mapT_run ht
  obtain ⟨d, hd⟩ := key_und hk
  split
  · trivial
  · rename_i hkey
    split
    · rename_i r hv
      rw [hv] at e1; simp only [VRel] at e1
      split
      · rename_i l hl
        obtain ⟨es, clk, hes, hm⟩ := R.getMap hl
        have hg := run_getMap (P := P) hes
        have hlt := R.lt hl
        split
        · rename_i hro
          have setOk : ∀ (w2 : World) (X : Obj), w2.heap = w.heap.setIfInBounds (g.ι r) X → w2.heap[g.ι r]? = some X := by
            intro w2 X hw; rw [hw]; simp [hlt]
          have setNe : ∀ (w2 : World) (X : Obj), w2.heap = w.heap.setIfInBounds (g.ι r) X → ∀ j, j ≠ g.ι r → w2.heap[j]? = w.heap[j]? := by
            intro w2 X hw j hj; rw [hw, Array.getElem?_setIfInBounds_ne (by omega)]
          split
          · rename_i j u hf
            have hfn := findNow_of hd hk e2 0 hm hf
            simp only [Nat.sub_zero] at hfn
            obtain ⟨_, q, k0, hq, hvq, hj, hke⟩ := hfn
            have hkk := keyEq_true hke
            have hlen := hm.length
            have hjl : j < es.size := by
              have := (List.getElem?_eq_some_iff.1 hj).1
              simp at hlen; omega
            have hstay : (Instr.keyThatStays (((es[j]?).map (·.key)).getD (a.eval y')) (a.eval y')).run P w = .ok (a.eval y') w := by
              have hke2 : ∀ old, VRel g h.next (rd f x') old → Instr.sameBits 10000 old (a.eval y') = true := by
                intro old hold
                generalize rd f x' = v at hkey e2 hold
                unfold V.key at hkey
                split at hkey <;> simp at hkey
                all_goals (simp only [VRel] at e2 hold; rw [e2, hold]; simp [Instr.sameBits, beq_toListBytes])
              have hold : VRel g h.next (rd f x') (((es[j]?).map (·.key)).getD (a.eval y')) := by
                simp [hjl]
                have aux : ∀ {l : List (V × V)} {es : List MapEntry} (j : Nat) (hj2 : j < es.length), MRel g h.next l es → l[j]? = some (k0, u) → VRel g h.next k0 es[j].key := by
                  intro l
                  induction l with
                  | nil => intro es j hj2 hm hj; simp at hj
                  | cons p l ih =>
                    intro es j hj2 hm hj
                    obtain ⟨k', v'⟩ := p
                    simp only [MRel] at hm
                    obtain ⟨e', rr, rfl, h1, h2, h3⟩ := hm
                    cases j with
                    | zero => simp at hj; obtain ⟨rfl, rfl⟩ := hj; exact h1
                    | succ j => simpa using ih j (by simpa using hj2) h3 (by simpa using hj)
                have := aux j (by simpa using hjl) hm hj
                rw [hkk]; simpa using this
              simp [Instr.keyThatStays, hke2 _ hold]
            refine ⟨{ w with heap := w.heap.setIfInBounds (g.ι r) (.map (es.modify j fun e => { e with key := a.eval y', val := a.eval y'' }) clk) }, g, ?_, R.set (o' := .map (l.modify j fun e => (e.1, rd f x''))) (X := .map (es.modify j fun e => { e with key := a.eval y', val := a.eval y'' }) clk) hl hro (setOk _ _ rfl) (setNe _ _ rfl) (by simp) rfl rfl rfl ?_ (fun C t fr hh => by rw [hes] at hh; cases hh), Agree.refl _ _, Nat.le_refl _⟩
            · have hso : (setObj (g.ι r) (.map (es.modify j fun e => { e with key := a.eval y', val := a.eval y'' }) clk)).run P w = .ok () { w with heap := w.heap.setIfInBounds (g.ι r) (.map (es.modify j fun e => { e with key := a.eval y', val := a.eval y'' }) clk) } := by
                simp [setObj, Sem.run, hes]
              rcases ho with ho | ho <;> simp [execOp, ho, e1.2, Instr.mapUpdate, run_underlying hu, hg, checkKey_run hk, Instr.findKey, run_underlying hd, hq, hstay, hso]
            · refine ⟨_, _, rfl, ?_⟩
              rw [Array.toList_modify]
              exact MRel.modify j hm hj (by rw [← hkk]; exact e2) e3
          · rename_i hf
            have hfn := findNow_of hd hk e2 0 hm hf
            simp only at hfn
            refine ⟨{ w with heap := w.heap.setIfInBounds (g.ι r) (.map (es.push { key := a.eval y', val := a.eval y'', born := clk }) (clk + 1)) }, g, ?_, R.set (o' := .map (l ++ [(rd f x', rd f x'')])) (X := .map (es.push { key := a.eval y', val := a.eval y'', born := clk }) (clk + 1)) hl hro (setOk _ _ rfl) (setNe _ _ rfl) (by simp) rfl rfl rfl ?_ (fun C t fr hh => by rw [hes] at hh; cases hh), Agree.refl _ _, Nat.le_refl _⟩
            · have hso : (setObj (g.ι r) (.map (es.push { key := a.eval y', val := a.eval y'', born := clk }) (clk + 1))).run P w = .ok () { w with heap := w.heap.setIfInBounds (g.ι r) (.map (es.push { key := a.eval y', val := a.eval y'', born := clk }) (clk + 1)) } := by
                simp [setObj, Sem.run, hes]
              rcases ho with ho | ho <;> simp [execOp, ho, e1.2, Instr.mapUpdate, run_underlying hu, hg, checkKey_run hk, Instr.findKey, run_underlying hd, hfn, hso]
            · refine ⟨_, _, rfl, ?_⟩
              simpa using hm.push (e := { key := a.eval y', val := a.eval y'', born := clk }) e2 e3
          · trivial
        · trivial
      · trivial
    · trivial
end
end Go.Ab
