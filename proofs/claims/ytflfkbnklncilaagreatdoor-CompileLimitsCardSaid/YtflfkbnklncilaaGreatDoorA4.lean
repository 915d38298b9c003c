import Derived.Test.YtflfkbnklncilaaGreatDoorA3
/-! Operations, told as what they change. -/
set_option linter.unusedVariables false
set_option linter.unusedSimpArgs false
namespace Go.Ab

/-- What becomes of a heap. -/
inductive Dl where
  | same
  | al (o : O)
  | alT (t : Option (Nat × Option Nat)) (o : O)
  | st (b o : Nat) (vs : List V)
  | up (b : Nat) (o : O)
  | ka (b : Nat) (t : Option (Nat × Option Nat)) (o : O)
  | kl (b : Nat)

def Dl.app (h : H) : Dl → H
  | .same => h
  | .al o => h.alloc o
  | .alT t o => h.allocT t o
  | .st b o vs => (h.store b o vs).getD h
  | .up b o => h.upd b (some o)
  | .ka b t o => (h.upd b none).allocT t o
  | .kl b => h.upd b none

inductive RD where
  | val (v : V) (d : Dl)
  | unit (d : Dl)
  | call (k : Nat) (vs : List V)
  | panic (v : V)
  | bad

def RD.toR (h : H) : RD → R
  | .val v d => .val v (d.app h)
  | .unit d => .unit (d.app h)
  | .call k vs => .call k vs
  | .panic v => .panic v
  | .bad => .bad

def ofVD : Option V → RD
  | some v => .val v .same
  | none => .bad

theorem ofVD_toR (h : H) (o : Option V) : (ofVD o).toR h = ofV h o := by cases o <;> rfl

def stepD : COp → F → H → RD
  | .mv x => fun f h => .val (rd f x) .same
  | .pick c a b => fun f h => match rd f c with
    | .bool t => .val (if t then rd f a else rd f b) .same
    | _ => .bad
  | .alloc t z => fun f h => .val (.ptr (some (h.next, 0))) (.alT (some (t, some z.length)) (.cells z))
  | .box t x => fun f h => match (rd f x).cells with
    | some l => .val (.ptr (some (h.next, 0))) (.alT (some (t, some l.length)) (.cells l))
    | none => .bad
  | .build z ps => fun f h => match partsV f ps with
    | some l => match fillV z l with
      | some r => .val (.agg r) .same
      | none => .bad
    | none => .bad
  | .bslice sz len z ps => fun f h => match partsV f (ps.map fun (i, x) => (i * sz, sz, x)) with
    | some l => match fillV (List.replicate len z).flatten l with
      | some r => .val (.sl (some (h.next, 0)) sz len) (.al (.cells r))
      | none => .bad
    | none => .bad
  | .load n agg x => fun f h => match rd f x with
    | .ptr (some (b, o)) => match h.load b o n with
      | some l => if agg then .val (.agg l) .same else ofVD (one? l)
      | none => .bad
    | _ => .bad
  | .store n x y => fun f h => match rd f x with
    | .ptr (some (b, o)) => match (rd f y).cells with
      | some vs => if vs.length = n then if (h.store b o vs).isSome then .unit (.st b o vs) else .bad else .bad
      | none => .bad
    | _ => .bad
  | .nilck x => fun f h => match rd f x with
    | .ptr (some a) => .val (.ptr (some a)) .same
    | .sl a sz n => .val (.sl a sz n) .same
    | .fn k l m => .val (.fn k l m) .same
    | _ => .bad
  | .bin op x y => fun f h => ofVD (bin op (rd f x) (rd f y))
  | .eqb neg x y => fun f h => match rd f x, rd f y with
    | .bool a, .bool b => .val (.bool ((a == b) != neg)) .same
    | _, _ => .bad
  | .eqn neg k x y => fun f h => match (rd f x).isNil k, (rd f y).isNil k with
    | some a, some b => if a || b then .val (.bool ((a && b) != neg)) .same else if k = 0 then (match rd f x, rd f y with
      | .ptr (some p), .ptr (some q) => if p = q then .val (.bool !neg) .same else .bad
      | _, _ => .bad) else .bad
    | _, _ => .bad
  | .eqa neg ks x y => fun f h => match rd f x, rd f y with
    | .agg a, .agg b => match eqs? ks a b with
      | some t => .val (.bool (t != neg)) .same
      | none => .bad
    | _, _ => .bad
  | .un op x => fun f h => match op, rd f x with
    | .neg, .int k n => .val (.int k (k.wrap (0 - n))) .same
    | .xor, .int k n => .val (.int k (k.wrap (BitVec.ofInt k.bits (if k.signed then -1 else k.max) ^^^ BitVec.ofInt k.bits n).toNat)) .same
    | .not, .bool b => .val (.bool !b) .same
    | _, _ => .bad
  | .toInt k x => fun f h => match rd f x with
    | .int _ n => .val (.int k (k.wrap n)) .same
    | _ => .bad
  | .toStr x => fun f h => match rd f x with
    | .str l => .val (.str l) .same
    | _ => .bad
  | .b2s x => fun f h => match rd f x with
    | .sl none _ n => if n = 0 then .val (.str []) .same else .bad
    | .sl (some (b, o)) s n => match h.load b o n with
      | some l => match bytes? l with
        | some r => .val (.str r) .same
        | none => .bad
      | none => .bad
    | _ => .bad
  | .mkI t x => fun f h => .val (.ifc t (rd f x)) .same
  | .mkF k l m => fun f h => .val (.fn k (l.map (rd f)) (m.map (rd f))) .same
  | .mkM => fun f h => .val (.map (some h.next)) (.al (.map []))
  | .mkS sz bytes z l c => fun f h => match rd f l, rd f c with
    | .int .i64 n, .int .i64 m => if 0 ≤ n ∧ n = m ∧ n * bytes ≤ 140737488355328 ∧ n ≤ 140737488355328 then .val (.sl (some (h.next, 0)) sz n.toNat) (.al (.cells (List.replicate n.toNat z).flatten)) else .bad
    | _, _ => .bad
  | .sls x lo hi => fun f h => match rd f x with
    | .str l => match lo? f lo (some 0), lo? f hi (some l.length) with
      | some a, some b => if 0 ≤ a ∧ a ≤ b ∧ b ≤ l.length then .val (.str ((l.drop a.toNat).take (b.toNat - a.toNat))) .same else .bad
      | _, _ => .bad
    | _ => .bad
  | .slv sz x lo hi mx => fun f h => match rd f x, mx with
    | .sl (some (b, o)) s n, none => match lo? f lo (some 0), lo? f hi (some n) with
      | some p, some q => if s = sz ∧ 0 ≤ p ∧ p ≤ q ∧ q ≤ n then (if p = 0 then .val (.sl (some (b, o)) sz q.toNat) .same else if p < n then .val (.sl (some (b, o + p.toNat * sz)) sz (q.toNat - p.toNat)) .same else .val .sle .same) else .bad
      | _, _ => .bad
    | .sl (some (b, o)) s n, some m => match lo? f lo (some 0), lo? f hi (some n), lo? f (some m) none with
      | some 0, some 0, some 0 => .val .sl0 .same
      | _, _, _ => .bad
    | .sl none s n, _ => match lo? f lo (some 0), lo? f hi (some 0), lo? f mx (some 0) with
      | some 0, some 0, some 0 => .val (.sl none s 0) .same
      | _, _, _ => .bad
    | _, _ => .bad
  | .fadr off x => fun f h => match rd f x with
    | .ptr (some (b, o)) => .val (.ptr (some (b, o + off))) .same
    | _ => .bad
  | .fld off n agg x => fun f h => match rd f x with
    | .agg l => if off + n ≤ l.length then (if agg then .val (.agg ((l.drop off).take n)) .same else ofVD (one? ((l.drop off).take n))) else .bad
    | _ => .bad
  | .iadr sz x i => fun f h => match rd f x, rd f i with
    | .sl (some (b, o)) s n, .int _ j => if s = sz ∧ 0 ≤ j ∧ j < n then .val (.ptr (some (b, o + j.toNat * sz))) .same else .bad
    | _, _ => .bad
  | .iadrA len sz x i => fun f h => match rd f x, rd f i with
    | .ptr (some (b, o)), .int _ j => if 0 ≤ j ∧ j < len then .val (.ptr (some (b, o + j.toNat * sz))) .same else .bad
    | _, _ => .bad
  | .idxS x i => fun f h => match rd f x, rd f i with
    | .str l, .int _ j => if 0 ≤ j then (match l[j.toNat]? with
      | some c => .val (.int .u8 c.toNat) .same
      | none => .bad) else .bad
    | _, _ => .bad
  | .idxA len sz agg x i => fun f h => match rd f x, rd f i with
    | .agg l, .int _ j => if 0 ≤ j ∧ j < len ∧ j.toNat * sz + sz ≤ l.length then (if agg then .val (.agg ((l.drop (j.toNat * sz)).take sz)) .same else ofVD (one? ((l.drop (j.toNat * sz)).take sz))) else .bad
    | _, _ => .bad
  | .look kk z ok x i => fun f h => if (rd f i).key kk = false then .bad else match rd f x with
    | .map none => .val (if ok then .tup [z, .bool false] else z) .same
    | .map (some r) => match h.get r with
      | some (.map l) => match findV kk (rd f i) l 0 with
        | some (some (_, v)) => .val (if ok then .tup [v, .bool true] else v) .same
        | some none => .val (if ok then .tup [z, .bool false] else z) .same
        | none => .bad
      | _ => .bad
    | _ => .bad
  | .mset kk x k v => fun f h => if (rd f k).key kk = false then .bad else match rd f x with
    | .map (some r) => match h.get r with
      | some (.map l) => if h.ro ≤ r then (match findV kk (rd f k) l 0 with
        | some (some (i, _)) => .unit (.up r (.map (l.modify i fun e => (e.1, rd f v))))
        | some none => .unit (.up r (.map (l ++ [(rd f k, rd f v)])))
        | none => .bad) else .bad
      | _ => .bad
    | _ => .bad
  | .tas t z ok x => fun f h => match rd f x with
    | .ifc u v => if u = t then .val (if ok then .tup [v, .bool true] else v) .same else (if ok then .val (.tup [z, .bool false]) .same else .bad)
    | .nilifc => if ok then .val (.tup [z, .bool false]) .same else .bad
    | _ => .bad
  | .ext x i => fun f h => match rd f x with
    | .tup l => ofVD l[i]?
    | _ => .bad
  | .call k xs => fun f h => .call k (xs.map (rd f))
  | .callV x xs => fun f h => match rd f x with
    | .fn k l m => .call k (l ++ xs.map (rd f) ++ m)
    | _ => .bad
  | .lenS x => fun f h => match rd f x with
    | .str l => .val (.int .i64 l.length) .same
    | _ => .bad
  | .lenV x => fun f h => match rd f x with
    | .sl _ _ n => .val (.int .i64 n) .same
    | .sl0 => .val (.int .i64 0) .same
    | .sle => .val (.int .i64 0) .same
    | _ => .bad
  | .lenM x => fun f h => match rd f x with
    | .map none => .val (.int .i64 0) .same
    | .map (some r) => match h.get r with
      | some (.map l) => .val (.int .i64 l.length) .same
      | _ => .bad
    | _ => .bad
  | .lenA n => fun f h => .val (.int .i64 n) .same
  | .mx x y => fun f h => match rd f x, rd f y with
    | .int k a, .int k' b => if k = k' then .val (.int k (if b > a then b else a)) .same else .bad
    | _, _ => .bad
  | .mn x y => fun f h => match rd f x, rd f y with
    | .int k a, .int k' b => if k = k' then .val (.int k (if b < a then b else a)) .same else .bad
    | _, _ => .bad
  | .pan x => fun f h => match rd f x with
    | .ifc t v => .panic (.ifc t v)
    | _ => .bad
  | .app e sz bytes z x y => fun f h =>
    match newsOf f h sz y with
    | none => .bad
    | some (ns, m) => match rd f x with
      | .sl none _ n => if n = 0 ∧ m * bytes ≤ 140737488355328 ∧ m ≤ 140737488355328 then (if m = 0 then .val (.sl none sz 0) .same else .val (.sl (some (h.next, 0)) sz m) (.alT (some (e, none)) (.cells ns))) else .bad
      | .sl0 => if m * bytes ≤ 140737488355328 ∧ m ≤ 140737488355328 then (if m = 0 then .val .sl0 .same else .val (.sl (some (h.next, 0)) sz m) (.alT (some (e, none)) (.cells ns))) else .bad
      | .sl (some (b, 0)) s n => match h.get b with
        | some (.cells l) => if s = sz ∧ n * sz ≤ l.length ∧ h.ro ≤ b ∧ (n + m) * bytes ≤ 140737488355328 ∧ n + m ≤ 140737488355328 then .val (.sl (some (h.next, 0)) sz (n + m)) (.ka b (newTag h e b) (.cells (l.take (n * sz) ++ ns))) else .bad
        | _ => .bad
      | _ => .bad
  | .appS e x y => fun f h => match rd f y with
    | .str l => match rd f x with
      | .sl none _ n => if n = 0 ∧ l.length ≤ 140737488355328 then (if l.length = 0 then .val (.sl none 1 0) .same else .val (.sl (some (h.next, 0)) 1 l.length) (.alT (some (e, none)) (.cells (u8s l)))) else .bad
      | .sl (some (b, 0)) s n => match h.get b with
        | some (.cells m) => if s = 1 ∧ n ≤ m.length ∧ h.ro ≤ b ∧ n + l.length ≤ 140737488355328 then .val (.sl (some (h.next, 0)) 1 (n + l.length)) (.ka b (newTag h e b) (.cells (m.take n ++ u8s l))) else .bad
        | _ => .bad
      | _ => .bad
    | _ => .bad
  | .copy sz x y => fun f h => match rd f x, rd f y with
    | .sl (some (b, o)) s n, .sl (some (b', o')) s' n' => if s = sz ∧ s' = sz then (match h.load b' o' (min n' n * sz) with
      | some l => if (h.store b o l).isSome then .val (.int .i64 (min n' n : Nat)) (.st b o l) else .bad
      | none => .bad) else .bad
    | _, _ => .bad
  | .clr sz z x => fun f h => match rd f x with
    | .sl none _ _ => .val (.tup []) .same
    | .sl0 => .val (.tup []) .same
    | .sle => .val (.tup []) .same
    | .sl (some (b, o)) s n => if s = sz then (if n = 0 then .val (.tup []) .same else if (h.store b o (List.replicate n z).flatten).isSome then .val (.tup []) (.st b o (List.replicate n z).flatten) else .bad) else .bad
    | _ => .bad
  | .upt x => fun f h => match rd f x with
    | .ptr (some (b, o)) => match h.get b with
      | some (.cells l) => if o < l.length then .val (.ptr (some (b, o))) .same else .bad
      | _ => .bad
    | _ => .bad
  | .ufp ts x => fun f h => match rd f x with
    | .ptr (some (b, o)) => match h.ty b, h.get b with
      | some (t, some n), some (.cells _) => if ts.contains (t, n, o) = true then .val (.ptr (some (b, o))) .same else .bad
      | _, _ => .bad
    | _ => .bad
  | .noe x => fun f h => .val (rd f x) .same
  | .usd x => fun f h => match rd f x with
    | .sl none _ _ => .val (.ptr none) .same
    | .sl (some (b, o)) _ n => if n = 0 then .bad else .val (.ptr (some (b, o))) .same
    | _ => .bad
  | .ustr e x y => fun f h => match rd f x, rd f y with
    | .ptr none, .int .i64 n => if n = 0 then .val (.str []) .same else .bad
    | .ptr (some (b, 0)), .int .i64 (.ofNat n) => match h.ty b, h.load b 0 n with
      | some (t, _), some l => if t = e ∧ h.ro ≤ b ∧ n ≠ 0 ∧ n ≤ BIG then (match bytes? l with
        | some r => .val (.str r) (.kl b)
        | none => .bad) else .bad
      | _, _ => .bad
    | _, _ => .bad
  | _ => fun _ _ => .bad


theorem st_toR (h : H) (b o : Nat) (vs : List V) (hs : (h.store b o vs).isSome = true) : RD.toR h (.unit (.st b o vs)) = ofH (h.store b o vs) := by
  obtain ⟨h', hh⟩ := Option.isSome_iff_exists.1 hs
  simp [RD.toR, Dl.app, ofH, hh]

theorem step_app (f : F) (h : H) (e sz bytes : Nat) (z : List V) (x y : X) : step f h (.app e sz bytes z x y) = match newsOf f h sz y with
    | none => .bad
    | some (ns, m) => match rd f x with
      | .sl none _ n => if n = 0 ∧ m * bytes ≤ 140737488355328 ∧ m ≤ 140737488355328 then (if m = 0 then .val (.sl none sz 0) h else .val (.sl (some (h.next, 0)) sz m) (h.allocT (some (e, none)) (.cells ns))) else .bad
      | .sl0 => if m * bytes ≤ 140737488355328 ∧ m ≤ 140737488355328 then (if m = 0 then .val .sl0 h else .val (.sl (some (h.next, 0)) sz m) (h.allocT (some (e, none)) (.cells ns))) else .bad
      | .sl (some (b, 0)) s n => match h.get b with
        | some (.cells l) => if s = sz ∧ n * sz ≤ l.length ∧ h.ro ≤ b ∧ (n + m) * bytes ≤ 140737488355328 ∧ n + m ≤ 140737488355328 then .val (.sl (some (h.next, 0)) sz (n + m)) ((h.upd b none).allocT (newTag h e b) (.cells (l.take (n * sz) ++ ns))) else .bad
        | _ => .bad
      | _ => .bad := rfl

set_option maxHeartbeats 4000000 in
theorem stepD_toR (f : F) (h : H) (op : COp) : (stepD op f h).toR h = step f h op := by
  cases op with
  | app e sz bytes z x y =>
    rw [step_app]
    simp only [stepD]
    cases newsOf f h sz y with
    | none => rfl
    | some p =>
      obtain ⟨ns, m⟩ := p
      simp only
      (repeat' (first | rfl | (split <;> (try simp only [*])))) <;> first
        | rfl
        | (simp_all [RD.toR, Dl.app]; done)
  | _ =>
    simp only [stepD, step] <;> (repeat' (first | rfl | (exact ofVD_toR _ _) | (exact st_toR _ _ _ _ ‹_›) | (split <;> (try simp only [*])))) <;> first
      | rfl
      | (simp_all [RD.toR, Dl.app, ofH, ofVD_toR]; done)
      | (rename_i hh _ hn; rw [hn] at hh; cases hh; done)
      | (rename_i hh hn; rw [hn] at hh; cases hh; done)
      | skip
end Go.Ab

/-! A machine that the kernel can run. -/
set_option linter.unusedVariables false
set_option linter.unusedSimpArgs false
namespace Go.Ab

inductive T (α : Type) where
  | nil
  | node (l : T α) (v : Option α) (r : T α)

def T.get {α : Type} : T α → Nat → Option α
  | .nil, _ => none
  | .node l v r, n => match n with
    | 0 => v
    | n + 1 => match Nat.mod n 2 with
      | 0 => l.get (Nat.div n 2)
      | _ + 1 => r.get (Nat.div n 2)

/-- Written with what goes on behind it, so that nothing is left unreckoned. -/
def T.setK {α : Type} : Nat → T α → Nat → Option α → (T α → Bool) → Bool
  | 0 => fun _ _ _ _ => false
  | d + 1 => fun t => match t with
    | .nil => fun n => match n with
      | 0 => fun v k => k (.node .nil v .nil)
      | n + 1 => fun v k => match Nat.mod n 2 with
        | 0 => T.setK d .nil (Nat.div n 2) v fun l => k (.node l none .nil)
        | _ + 1 => T.setK d .nil (Nat.div n 2) v fun r => k (.node .nil none r)
    | .node l x r => fun n => match n with
      | 0 => fun v k => k (.node l v r)
      | n + 1 => fun v k => match Nat.mod n 2 with
        | 0 => T.setK d l (Nat.div n 2) v fun l => k (.node l x r)
        | _ + 1 => T.setK d r (Nat.div n 2) v fun r => k (.node l x r)

def natK (n : Nat) (k : Nat → Bool) : Bool := match n with
  | 0 => k 0
  | n + 1 => k (n + 1)
def intK (n : Int) (k : Int → Bool) : Bool := match n with
  | .ofNat n => natK n fun n => k (.ofNat n)
  | .negSucc n => natK n fun n => k (.negSucc n)
def boolK (b : Bool) (k : Bool → Bool) : Bool := match b with
  | true => k true
  | false => k false
def listK {α : Type} (e : α → (α → Bool) → Bool) : List α → (List α → Bool) → Bool
  | [], k => k []
  | a :: l, k => e a fun a => listK e l fun l => k (a :: l)
def byteK (b : UInt8) (k : UInt8 → Bool) : Bool := k b
def addrK (a : Option (Nat × Nat)) (k : Option (Nat × Nat) → Bool) : Bool := match a with
  | none => k none
  | some (b, o) => natK b fun b => natK o fun o => k (some (b, o))
def kindK (i : IntKind) (k : IntKind → Bool) : Bool := match i with
  | .i8 => k .i8 | .i16 => k .i16 | .i32 => k .i32 | .i64 => k .i64
  | .u8 => k .u8 | .u16 => k .u16 | .u32 => k .u32 | .u64 => k .u64
/-- A value's outermost sign. -/
def V.exK : V → (V → Bool) → Bool
  | .bot => fun k => k .bot
  | .int i n => fun k => k (.int i n)
  | .bool b => fun k => k (.bool b)
  | .str l => fun k => k (.str l)
  | .ptr a => fun k => k (.ptr a)
  | .sl a sz n => fun k => k (.sl a sz n)
  | .sl0 => fun k => k .sl0
  | .sle => fun k => k .sle
  | .map r => fun k => k (.map r)
  | .fn f l m => fun k => k (.fn f l m)
  | .nilfn => fun k => k .nilfn
  | .ifc t v => fun k => k (.ifc t v)
  | .nilifc => fun k => k .nilifc
  | .agg l => fun k => k (.agg l)
  | .tup l => fun k => k (.tup l)

def pairK (p : V × V) (k : V × V → Bool) : Bool := match p with
  | (a, b) => a.exK fun a => b.exK fun b => k (a, b)
def O.fK (o : O) (k : O → Bool) : Bool := match o with
  | .cells l => listK V.exK l fun l => k (.cells l)
  | .map l => listK pairK l fun l => k (.map l)

/-- A heap that is held in a tree. -/
structure HT where
  ro : Nat
  next : Nat
  tr : T O
  ty : T (Nat × Option Nat)

def HT.H (h : HT) : H := { ro := h.ro, next := h.next, get := h.tr.get, ty := h.ty.get }

/-- A list in which some is written over, from a place on. -/
def wrK : Nat → List V → List V → (List V → Bool) → Bool
  | 0, l, [], k => k l
  | 0, _ :: l, v :: vs, k => v.exK fun v => wrK 0 l vs fun l => k (v :: l)
  | n + 1, a :: l, vs, k => wrK n l vs fun l => k (a :: l)
  | _, _, _, _ => false

def tagK (t : Option (Nat × Option Nat)) (k : Option (Nat × Option Nat) → Bool) : Bool := match t with
  | none => k none
  | some (t, none) => natK t fun t => k (some (t, none))
  | some (t, some n) => natK t fun t => natK n fun n => k (some (t, some n))

def Dl.appK : Dl → HT → (HT → Bool) → Bool
  | .same => fun h k => k h
  | .al o => fun h k => o.fK fun o => T.setK 30 h.tr h.next (some o) fun tr => natK (h.next + 1) fun n => k ⟨h.ro, n, tr, h.ty⟩
  | .alT t o => fun h k => tagK t fun t => o.fK fun o => T.setK 30 h.tr h.next (some o) fun tr => T.setK 30 h.ty h.next t fun ty => natK (h.next + 1) fun n => k ⟨h.ro, n, tr, ty⟩
  | .st b o vs => fun h k => Nat.ble h.ro b && vs.all V.one && (match h.tr.get b with
    | some (.cells l) => wrK o l vs fun l => T.setK 30 h.tr b (some (.cells l)) fun tr => k ⟨h.ro, h.next, tr, h.ty⟩
    | _ => false)
  | .up b o => fun h k => o.fK fun o => T.setK 30 h.tr b (some o) fun tr => k ⟨h.ro, h.next, tr, h.ty⟩
  | .kl b => fun h k => T.setK 30 h.tr b none fun tr => k ⟨h.ro, h.next, tr, h.ty⟩
  | .ka b t o => fun h k => tagK t fun t => o.fK fun o => T.setK 30 h.tr b none fun tr => T.setK 30 tr h.next (some o) fun tr => T.setK 30 h.ty h.next t fun ty => natK (h.next + 1) fun n => k ⟨h.ro, n, tr, ty⟩

/-- A frame, what was written last ahead. -/
inductive A where
  | nil
  | cons (n : Nat) (v : V) (r : A)

def A.F : A → F
  | .nil, _ => .bot
  | .cons m v r, n => match Nat.beq m n with
    | true => v
    | false => r.F n

/-- What an operation gives, reckoned: parts that lay in a value already are left as they are. -/
def V.rK : V → (V → Bool) → Bool
  | .int i n => fun k => kindK i fun i => intK n fun n => k (.int i n)
  | .bool b => fun k => boolK b fun b => k (.bool b)
  | .ptr a => fun k => addrK a fun a => k (.ptr a)
  | .sl a sz n => fun k => addrK a fun a => natK sz fun sz => natK n fun n => k (.sl a sz n)
  | .map r => fun k => (match r with
      | none => k (.map none)
      | some r => natK r fun r => k (.map (some r)))
  | .fn f l m => fun k => listK V.exK l fun l => listK V.exK m fun m => k (.fn f l m)
  | .ifc t v => fun k => v.exK fun v => k (.ifc t v)
  | .agg l => fun k => listK V.exK l fun l => k (.agg l)
  | .tup l => fun k => listK V.exK l fun l => k (.tup l)
  | .bot => fun k => k .bot
  | .str l => fun k => k (.str l)
  | .sl0 => fun k => k .sl0
  | .sle => fun k => k .sle
  | .nilfn => fun k => k .nilfn
  | .nilifc => fun k => k .nilifc

/-- A new text, reckoned. -/
def V.sK (v : V) (k : V → Bool) : Bool := match v with
  | .str l => listK byteK l fun l => k (.str l)
  | v => v.rK k

def putK (t : A) (d : Option Nat) (v : V) (k : A → Bool) : Bool := match d with
  | none => k t
  | some d => k (.cons d v t)

/-- Calls, as they are run. -/
abbrev CallK := Nat → List V → HT → (Out → HT → Bool) → Bool

/-- Does an operation make a text? -/
def mks : COp → Bool
  | .bin _ _ _ => true
  | .sls _ _ _ => true
  | .b2s _ => true
  | .ustr _ _ _ => true
  | _ => false

def resK : RD → CallK → CI → A → HT → (A → HT → Bool) → (V → A → HT → Bool) → Bool
  | .val v d => fun call ci t h K Kp => (bif mks ci.op then v.sK else v.rK) fun v => d.appK h fun h => putK t ci.dst v fun t => K t h
  | .unit d => fun call ci t h K Kp => d.appK h fun h => putK t ci.dst (.tup []) fun t => K t h
  | .call k vs => fun call ci t h K Kp => listK V.exK vs fun vs => call k vs h fun out h => match out with
    | .ret v => putK t ci.dst v fun t => K t h
    | .panic v => Kp v t h
  | .panic v => fun call ci t h K Kp => v.rK fun v => Kp v t h
  | .bad => fun _ _ _ _ _ _ => false

def opK (call : CallK) (ci : CI) (t : A) (h : HT) (K : A → HT → Bool) (Kp : V → A → HT → Bool) : Bool := resK (stepD ci.op t.F h.H) call ci t h K Kp

def goK (call : CallK) (ops : List CI) (ci : CI) (t : A) (h : HT) (K : A → HT → Bool) (Kp : V → A → HT → Bool) : Bool := match want ops t.F ci with
  | some true => opK call ci t h K Kp
  | some false => putK t ci.dst (.tup []) fun t => K t h
  | none => false

def opsK (call : CallK) (ops : List CI) (K : A → HT → Bool) (Kp : V → A → HT → Bool) : List CI → A → HT → Bool
  | [], t, h => K t h
  | ci :: rest, t, h => goK call ops ci t h (opsK call ops K Kp rest) Kp

/-- The slots that are kept. -/
def keepK (t : A) : List Nat → A → (A → Bool) → Bool
  | [], acc, k => k acc
  | i :: ks, acc, k => (t.F i).exK fun v => keepK t ks (.cons i v acc) k

def loopK (body : (Ex → A → HT → Bool) → A → HT → Bool) (ks : List Nat) (K : Ex → A → HT → Bool) : Nat → A → HT → Bool
  | 0, _, _ => false
  | n + 1, t, h => body (fun e t h => match e with
    | .normal => keepK t ks .nil fun t => loopK body ks K n t h
    | e => K e t h) t h

def jumpK (body : (Ex → A → HT → Bool) → A → HT → Bool) (ks : List Nat) (l : Nat) (K : Ex → A → HT → Bool) : Nat → A → HT → Bool
  | 0, _, _ => false
  | n + 1, t, h => body (fun e t h => match e with
    | .goto l' => Nat.beq l' l && keepK t ks .nil fun t => jumpK body ks l K n t h
    | e => K e t h) t h

mutual
def eqVV : V → V → Bool
  | .bot, .bot => true
  | .int k n, .int k' n' => k == k' && n == n'
  | .bool b, .bool b' => b == b'
  | .str l, .str l' => l == l'
  | .ptr a, .ptr a' => a == a'
  | .sl a s n, .sl a' s' n' => a == a' && s == s' && n == n'
  | .sl0, .sl0 => true
  | .sle, .sle => true
  | .map a, .map a' => a == a'
  | .nilfn, .nilfn => true
  | .nilifc, .nilifc => true
  | .ifc t v, .ifc t' v' => t == t' && eqVV v v'
  | .agg l, .agg l' => eqVVs l l'
  | .tup l, .tup l' => eqVVs l l'
  | _, _ => false
def eqVVs : List V → List V → Bool
  | [], [] => true
  | v :: l, v' :: l' => eqVV v v' && eqVVs l l'
  | _, _ => false
end

def sameK (ops : List CI) (f : F) (h : H) (r : Nat) : Bool := match ops[r]? with
  | some cr => (match cr.dst with
    | some d => (match rdVal ops cr f h with
      | some v => eqVV v (f d)
      | none => false)
    | none => (rdVal ops cr f h).isSome)
  | none => true

def noCall (ops : List CI) : Bool := ops.all fun ci => match ci.op with
  | .call _ _ => false
  | .callV _ _ => false
  | .pan _ => false
  | _ => true

def drawK (call : CallK) (ops : List CI) (lt : List Nat) (K : A → HT → Bool) (Kp : V → A → HT → Bool) : List Nat → List Nat → A → HT → Bool
  | [], _, t, h => K t h
  | i :: rest, done, t, h => lateOK ops lt done t.F && match ops[i]? with
    | none => false
    | some ci => bif rdOnly ci.op then (match rdVal ops ci t.F h.H with
        | some v => v.sK fun v => putK t ci.dst v fun t => drawK call ops lt K Kp rest (i :: done) t h
        | none => false)
      else goK call ops ci t h (fun t h => (obls ops i done).all (sameK ops t.F h.H) && drawK call ops lt K Kp rest (i :: done) t h) Kp

/-- Code, run: L rounds at most of each loop. -/
def execK : CC → CallK → Nat → Bool → (Ex → A → HT → Bool) → A → HT → Bool
  | .skip => fun call L pf K t h => K .normal t h
  | .region draw ops => fun call L pf K t h => match draw with
    | true => false
    | false => opsK call ops (K .normal) (fun v => K (.panic v)) ops t h
  | .regionP perm lt ops => fun call L pf K t h => (pf || noCall ops) && drawK call ops lt (K .normal) (fun v _ h => pf && K (.panic v) .nil h) perm [] t h
  | .seq a b => fun call L pf K t h => execK a call L pf (fun e t h => match e with
    | .normal => execK b call L pf K t h
    | e => K e t h) t h
  | .seqK ks a b => fun call L pf K t h => execK a call L pf (fun e t h => match e with
    | .normal => keepK t ks .nil fun t => execK b call L pf K t h
    | e => K e t h) t h
  | .cond x a b => fun call L pf K t h => match rd t.F x with
    | .bool true => execK a call L pf K t h
    | .bool false => execK b call L pf K t h
    | _ => false
  | .block id b => fun call L pf K t h => execK b call L pf (fun e t h => match e with
    | .exit id' => match Nat.beq id' id with
      | true => K .normal t h
      | false => K (.exit id') t h
    | e => K e t h) t h
  | .loop ks b => fun call L pf K t h => keepK t ks .nil fun t => loopK (execK b call L pf) ks K L t h
  | .exit id => fun call L pf K t h => K (.exit id) t h
  | .ret => fun call L pf K t h => K .ret t h
  | .scope b => fun call L pf K t h => execK b call L pf (fun e t h => match e with
    | .goto _ => false
    | e => K e t h) t h
  | .scopeJ ks l b r => fun call L pf K t h => execK b call L pf (fun e t h => match e with
    | .goto l' => Nat.beq l' l && keepK t ks .nil fun t => jumpK (execK r call L pf) ks l K L t h
    | e => K e t h) t h
  | .goto l => fun call L pf K t h => K (.goto l) t h
  | .refuse => fun call L pf _ _ _ => false
  | .label _ => fun call L pf K t h => K .normal t h

def retsK (C : CF) (t : A) (h : HT) (k : Out → HT → Bool) : Bool := match retsOf t.F h.H C.res with
  | some l => (retV l).rK fun v => k (.ret v) h
  | none => false

def argK : List V → Nat → A → (A → Bool) → Bool
  | [], _, t, k => k t
  | v :: vs, i, t, k => natK (i + 1) fun j => argK vs j (.cons i v t) k

mutual
/-- A value whose blocks bear other names. -/
def V.ren (ρ : Nat → Nat) : V → V
  | .bot => .bot
  | .int k n => .int k n
  | .bool b => .bool b
  | .str l => .str l
  | .ptr none => .ptr none
  | .ptr (some (b, o)) => .ptr (some (ρ b, o))
  | .sl none s n => .sl none s n
  | .sl (some (b, o)) s n => .sl (some (ρ b, o)) s n
  | .sl0 => .sl0
  | .sle => .sle
  | .map none => .map none
  | .map (some r) => .map (some (ρ r))
  | .fn f l m => .fn f (V.rens ρ l) (V.rens ρ m)
  | .nilfn => .nilfn
  | .ifc t v => .ifc t (V.ren ρ v)
  | .nilifc => .nilifc
  | .agg l => .agg (V.rens ρ l)
  | .tup l => .tup (V.rens ρ l)
def V.rens (ρ : Nat → Nat) : List V → List V
  | [] => []
  | v :: l => V.ren ρ v :: V.rens ρ l
end

mutual
/-- Does a name stand in a value? -/
def V.has : V → Nat → Bool
  | .ptr (some (b, _)), c => b == c
  | .sl (some (b, _)) _ _, c => b == c
  | .map (some r), c => r == c
  | .fn _ l m, c => V.hass l c || V.hass m c
  | .ifc _ v, c => V.has v c
  | .agg l, c => V.hass l c
  | .tup l, c => V.hass l c
  | _, _ => false
def V.hass : List V → Nat → Bool
  | [], _ => false
  | v :: l, c => V.has v c || V.hass l c
end

def O.ren (ρ : Nat → Nat) : O → O
  | .cells l => .cells (V.rens ρ l)
  | .map l => .map (l.map fun e => (e.1.ren ρ, e.2.ren ρ))
def O.has : O → Nat → Bool
  | .cells l, c => V.hass l c
  | .map l, c => l.any fun e => e.1.has c || e.2.has c
def Out.ren (ρ : Nat → Nat) : Out → Out
  | .ret v => .ret (v.ren ρ)
  | .panic v => .panic (v.ren ρ)
def Out.has : Out → Nat → Bool
  | .ret v, c => v.has c
  | .panic v, c => v.has c

/-- Blocks, put behind those that there are. -/
def litsK (N : Nat) : List O → Nat → T O → (T O → Nat → Bool) → Bool
  | [], i, tr, k => k tr i
  | o :: l, i, tr, k => (o.ren (· + N)).fK fun o => T.setK 30 tr i (some o) fun tr => natK (i + 1) fun i => litsK N l i tr k

/-- How a function is run: by its code (d: it defers), as a deferred closure that recovers, or by a law. -/
inductive FnK where
  | code (C : CF)
  | dfr (C : CF)
  | rcvr (C : CF)
  | prim (p : List V → HT → Option (V × Dl))
  | memo (vs : List V) (o : Out) (l : List O) (x : FnK)

abbrev Tab := T FnK

/-- A deferred closure. -/
def recK (call : CallK) (L : Nat) (C : CF) (vs : List V) (h : HT) (pv : V) (k : HT → Bool) : Bool := match C.body with
  | .seq (.region false (ci :: ops)) b => (match ci.op, ci.guard with
    | .rcv, none => Nat.ble vs.length C.nt && argK vs 0 .nil fun t => putK t ci.dst pv fun t => opsK call (ci :: ops) (fun t h => execK b call L true (fun e _ h => match e with
      | .normal => k h
      | .ret => k h
      | _ => false) t h) (fun _ _ _ => false) ops t h
    | _, _ => false)
  | _ => false

def dfrK (tab : Tab) (call : CallK) (L : Nat) (C : CF) (k : Out → HT → Bool) : CC → A → HT → Bool
  | .seq a b, t, h => match isDfr a with
    | some (s, f, cap) => listK V.exK (cap.map (rd t.F)) fun vs => (fun t : A =>
      execK b call L false (fun e t h => match tab.get f with
        | some (.rcvr C') => (match e with
          | .normal => recK call L C' vs h .nilifc fun h => retsK C t h k
          | .ret => recK call L C' vs h .nilifc fun h => retsK C t h k
          | .panic v => recK call L C' vs h v fun h => retsK C t h k
          | _ => false)
        | _ => false) t h) (.cons s (.fn f [] vs) t)
    | none => execK a call L false (fun e t h => match e with
      | .normal => dfrK tab call L C k b t h
      | .ret => retsK C t h k
      | .panic v => k (.panic v) h
      | _ => false) t h
  | _, _, _ => false

def fnK (tab : Tab) (call : CallK) (L : Nat) : FnK → List V → HT → (Out → HT → Bool) → Bool
  | .code C => fun vs h k => Nat.ble vs.length C.nt && argK vs 0 .nil fun t => execK C.body call L true (fun e t h => match e with
      | .normal => retsK C t h k
      | .ret => retsK C t h k
      | .panic v => k (.panic v) h
      | _ => false) t h
  | .dfr C => fun vs h k => Nat.ble vs.length C.nt && argK vs 0 .nil fun t => dfrK tab call L C k C.body t h
  | .rcvr _ => fun _ _ _ => false
  | .prim p => fun vs h k => (match p vs h with
      | some (v, dl) => v.sK fun v => dl.appK h fun h => k (.ret v) h
      | none => false)
  | .memo vs0 o l x => fun vs h k => match eqVVs vs0 vs with
    | true => litsK h.next l h.next h.tr fun tr n => (match o with
      | .ret v => (v.ren (· + h.next)).rK fun v => k (.ret v) ⟨h.ro, n, tr, h.ty⟩
      | .panic v => (v.ren (· + h.next)).rK fun v => k (.panic v) ⟨h.ro, n, tr, h.ty⟩)
    | false => fnK tab call L x vs h k

def callK (tab : Tab) (L : Nat) : Nat → CallK
  | 0, _, _, _, _ => false
  | d + 1, f, vs, h, k => match tab.get f with
    | some x => fnK tab (callK tab L d) L x vs h k
    | none => false

end Go.Ab


namespace Go.Ab
def idxB (c : UInt8) : List UInt8 → Nat → Int
  | [], _ => -1
  | b :: l, i => bif b == c then (i : Int) else idxB c l (i + 1)
def pIndexByte : List V → HT → Option (V × Dl)
  | [.str s, .int .u8 c], _ => some (.int .i64 (idxB (UInt8.ofNat c.toNat) s 0), .same)
  | _, _ => none
def tz : Nat → Nat → Nat
  | 0, _ => 64
  | d + 1, n => match Nat.beq (n % 2) 0 with
    | true => tz d (n / 2)
    | false => 63 - d
def pTZ : List V → HT → Option (V × Dl)
  | [.int .u64 (.ofNat n)], _ => if n < 18446744073709551616 then some (.int .i64 (tz 64 n : Nat), .same) else none
  | _, _ => none
def dig : Nat → Nat → List UInt8 → List UInt8
  | 0, n, acc => UInt8.ofNat (48 + n) :: acc
  | d + 1, n, acc => match Nat.blt n 10 with
    | true => UInt8.ofNat (48 + n) :: acc
    | false => dig d (n / 10) (UInt8.ofNat (48 + n % 10) :: acc)
def pItoa : List V → HT → Option (V × Dl)
  | [.int .i64 (.ofNat n)], _ => if n < 9223372036854775808 then some (.str (dig 20 n []), .same) else none
  | _, _ => none
def strs? : List V → Option (List (List UInt8))
  | [] => some []
  | .str s :: l => (strs? l).map (s :: ·)
  | _ => none
def join (sep : List UInt8) : List (List UInt8) → List UInt8
  | [] => []
  | [s] => s
  | s :: l => s ++ sep ++ join sep l
def pJoin : List V → HT → Option (V × Dl)
  | [.sl none _ n, .str _], _ => if n = 0 then some (.str [], .same) else none
  | [.sl (some (b, o)) _ n, .str sep], h => match h.H.load b o n with
    | some l => match strs? l with
      | some l => if (join sep l).length ≤ 140737488355328 ∧ n ≤ 140737488355328 then some (.str (join sep l), .same) else none
      | none => none
    | none => none
  | _, _ => none
def pBString : List V → HT → Option (V × Dl)
  | [.ptr (some (b, o))], h => match h.H.load b o 2 with
    | some [_, .sl none _ _] => some (.str [], .same)
    | some [_, .sl (some (d, 0)) _ n] => (match h.H.load d 0 n with
      | some l => match bytes? l with
        | some s => some (.str s, .kl d)
        | none => none
      | none => none)
    | _ => none
  | _, _ => none
def pre : List UInt8 → List UInt8 → Bool
  | [], _ => true
  | a :: l, b :: m => bif a == b then pre l m else false
  | _, _ => false
def cont (x : List UInt8) : List UInt8 → Bool
  | [] => pre x []
  | b :: l => bif pre x (b :: l) then true else cont x l
def pContains : List V → HT → Option (V × Dl)
  | [.str s, .str x], _ => if s.length < 4294967281 then some (.bool (cont x s), .same) else none
  | _, _ => none
end Go.Ab

/-! The machine that the kernel can run says the truth. -/
set_option linter.unusedVariables false
set_option linter.unusedSimpArgs false
namespace Go.Ab

theorem T.get_node {α : Type} (l r : T α) (v : Option α) (n : Nat) : (T.node l v r).get n = match n with
    | 0 => v
    | n + 1 => if n % 2 = 0 then l.get (n / 2) else r.get (n / 2) := by
  cases n with
  | zero => rfl
  | succ n =>
    simp only [T.get]
    have : Nat.mod n 2 = n % 2 := rfl
    rw [this]
    rcases Nat.mod_two_eq_zero_or_one n with h | h <;> simp [h] <;> rfl

theorem T.get_nil {α : Type} (n : Nat) : (T.nil : T α).get n = none := rfl

theorem T.setK_sound {α : Type} : ∀ (d : Nat) (t : T α) (n : Nat) (v : Option α) (k : T α → Bool), T.setK d t n v k = true → ∃ t', k t' = true ∧ ∀ m, t'.get m = if m = n then v else t.get m
  | 0, t, n, v, k, h => by simp [T.setK] at h
  | d + 1, t, n, v, k, h => by
    have key : ∀ (l r : T α) (x : Option α), (match n with
        | 0 => fun (v : Option α) (k : T α → Bool) => k (.node l v r)
        | n + 1 => fun v k => match Nat.mod n 2 with
          | 0 => T.setK d l (Nat.div n 2) v fun l => k (.node l x r)
          | _ + 1 => T.setK d r (Nat.div n 2) v fun r => k (.node l x r)) v k = true → ∃ t', k t' = true ∧ ∀ m, t'.get m = if m = n then v else (T.node l x r).get m := by
      intro l r x hk
      cases n with
      | zero =>
        refine ⟨_, hk, fun m => ?_⟩
        rw [T.get_node, T.get_node]
        cases m <;> simp
      | succ n =>
        simp only at hk
        have hm : Nat.mod n 2 = n % 2 := rfl
        have hd : Nat.div n 2 = n / 2 := rfl
        rw [hm, hd] at hk
        rcases Nat.mod_two_eq_zero_or_one n with h2 | h2
        · rw [h2] at hk
          obtain ⟨l', hk', hl⟩ := T.setK_sound d l (n / 2) v _ hk
          refine ⟨_, hk', fun m => ?_⟩
          rw [T.get_node, T.get_node]
          cases m with
          | zero => simp
          | succ m =>
            simp only [hl, Nat.add_right_cancel_iff]
            by_cases e : m = n
            · subst e; simp [h2]
            · simp only [e, if_false]
              split
              · have : ¬ m / 2 = n / 2 := by omega
                simp [this]
              · rfl
        · rw [h2] at hk
          obtain ⟨r', hk', hl⟩ := T.setK_sound d r (n / 2) v _ hk
          refine ⟨_, hk', fun m => ?_⟩
          rw [T.get_node, T.get_node]
          cases m with
          | zero => simp
          | succ m =>
            simp only [hl, Nat.add_right_cancel_iff]
            by_cases e : m = n
            · subst e; simp [h2]
            · simp only [e, if_false]
              split
              · rfl
              · have : ¬ m / 2 = n / 2 := by omega
                simp [this]
    cases t with
    | nil =>
      have := key .nil .nil none (by
        simp only [T.setK] at h
        cases n <;> exact h)
      obtain ⟨t', h1, h2⟩ := this
      refine ⟨t', h1, fun m => ?_⟩
      rw [h2, T.get_node]
      cases m <;> simp [T.get_nil]
    | node l x r =>
      refine key l r x ?_
      simp only [T.setK] at h
      cases n <;> exact h

theorem natK_sound {n : Nat} {k : Nat → Bool} (h : natK n k = true) : k n = true := by
  cases n <;> exact h
theorem intK_sound {n : Int} {k : Int → Bool} (h : intK n k = true) : k n = true := by
  cases n <;> exact natK_sound (k := fun n => k _) h
theorem boolK_sound {n : Bool} {k : Bool → Bool} (h : boolK n k = true) : k n = true := by
  cases n <;> exact h
theorem kindK_sound {n : IntKind} {k : IntKind → Bool} (h : kindK n k = true) : k n = true := by
  cases n <;> exact h
theorem addrK_sound {n : Option (Nat × Nat)} {k : Option (Nat × Nat) → Bool} (h : addrK n k = true) : k n = true := by
  rcases n with _ | ⟨b, o⟩
  · exact h
  · exact natK_sound (k := fun o => k (some (b, o))) (natK_sound (k := fun b => natK o fun o => k (some (b, o))) h)
theorem listK_sound {α : Type} {e : α → (α → Bool) → Bool} (he : ∀ a k, e a k = true → k a = true) : ∀ {l : List α} {k : List α → Bool}, listK e l k = true → k l = true
  | [], k, h => h
  | a :: l, k, h => listK_sound he (k := fun l => k (a :: l)) (he a _ h)
theorem exK_sound {v : V} {k : V → Bool} (h : v.exK k = true) : k v = true := by
  cases v <;> exact h
theorem exsK_sound {l : List V} {k : List V → Bool} (h : listK V.exK l k = true) : k l = true := listK_sound (fun _ _ => exK_sound) h
theorem rK_sound {v : V} {k : V → Bool} (h : v.rK k = true) : k v = true := by
  cases v <;> simp only [V.rK] at h <;> try exact h
  · exact intK_sound (k := fun n => k (.int _ n)) (kindK_sound (k := fun i => intK _ fun n => k (.int i n)) h)
  · exact boolK_sound (k := fun b => k (.bool b)) h
  · exact addrK_sound (k := fun a => k (.ptr a)) h
  · rename_i a sz n
    exact natK_sound (k := fun n => k (.sl a sz n)) (natK_sound (k := fun sz => natK n fun n => k (.sl a sz n)) (addrK_sound (k := fun a => natK sz fun sz => natK n fun n => k (.sl a sz n)) h))
  · rename_i r
    cases r with
    | none => exact h
    | some r => exact natK_sound (k := fun r => k (.map (some r))) h
  · rename_i f l m
    exact exsK_sound (k := fun m => k (.fn f l m)) (exsK_sound (k := fun l => listK V.exK m fun m => k (.fn f l m)) h)
  · exact exK_sound (k := fun v => k (.ifc _ v)) h
  · exact exsK_sound (k := fun l => k (.agg l)) h
  · exact exsK_sound (k := fun l => k (.tup l)) h
theorem sK_sound {v : V} {k : V → Bool} (h : v.sK k = true) : k v = true := by
  unfold V.sK at h
  split at h
  · exact listK_sound (e := byteK) (fun _ _ h => h) (k := fun l => k (.str l)) h
  · exact rK_sound h
theorem pairK_sound {p : V × V} {k : V × V → Bool} (h : pairK p k = true) : k p = true := by
  obtain ⟨a, b⟩ := p
  exact exK_sound (k := fun b => k (a, b)) (exK_sound (k := fun a => b.exK fun b => k (a, b)) h)
theorem ofK_sound {o : O} {k : O → Bool} (h : o.fK k = true) : k o = true := by
  cases o with
  | cells l => exact exsK_sound (k := fun l => k (.cells l)) h
  | map l => exact listK_sound (fun _ _ => pairK_sound) (k := fun l => k (.map l)) h

theorem wrK_sound : ∀ (o : Nat) (l vs : List V) (k : List V → Bool), wrK o l vs k = true → k (wr l o vs) = true ∧ o + vs.length ≤ l.length
  | 0, l, [], k, h => by simp [wrK] at h; simp [wr, h]
  | 0, a :: l, v :: vs, k, h => by
    simp only [wrK] at h
    have := wrK_sound 0 l vs _ (exK_sound h)
    refine ⟨?_, by simp at this ⊢; omega⟩
    simpa [wr] using this.1
  | 0, [], v :: vs, k, h => by simp [wrK] at h
  | n + 1, a :: l, vs, k, h => by
    simp only [wrK] at h
    have := wrK_sound n l vs _ h
    refine ⟨?_, by simp at this ⊢; omega⟩
    have e : n + 1 + vs.length = (n + vs.length) + 1 := by omega
    simpa [wr, e] using this.1
  | n + 1, [], vs, k, h => by simp [wrK] at h

theorem upd_H {h : HT} {b : Nat} {o : Option O} {tr : T O} (ht : ∀ m, tr.get m = if m = b then o else h.tr.get m) : (⟨h.ro, h.next, tr, h.ty⟩ : HT).H = h.H.upd b o := by
  simp only [HT.H, H.upd]
  congr 1
  funext m; exact ht m
theorem alloc_H {h : HT} {o : O} {tr : T O} (ht : ∀ m, tr.get m = if m = h.next then some o else h.tr.get m) : (⟨h.ro, h.next + 1, tr, h.ty⟩ : HT).H = h.H.alloc o := by
  simp only [HT.H, H.alloc]
  congr 1
  funext m; exact ht m

theorem allocT_H {h : HT} {o : O} {tr : T O} {t : Option (Nat × Option Nat)} {ty : T (Nat × Option Nat)} (ht : ∀ m, tr.get m = if m = h.next then some o else h.tr.get m) (hy : ∀ m, ty.get m = if m = h.next then t else h.ty.get m) : (⟨h.ro, h.next + 1, tr, ty⟩ : HT).H = h.H.allocT t o := by
  simp only [HT.H, H.allocT]
  congr 1
  · funext m; exact ht m
  · funext m; exact hy m
theorem tagK_sound {t : Option (Nat × Option Nat)} {k : Option (Nat × Option Nat) → Bool} (h : tagK t k = true) : k t = true := by
  rcases t with _ | ⟨t, _ | n⟩
  · exact h
  · exact natK_sound (k := fun t => k (some (t, none))) h
  · exact natK_sound (k := fun n => k (some (t, some n))) (natK_sound (k := fun t => natK n fun n => k (some (t, some n))) h)

theorem appK_sound {d : Dl} {h : HT} {k : HT → Bool} (hk : d.appK h k = true) : ∃ h', k h' = true ∧ h'.H = d.app h.H := by
  cases d with
  | same => exact ⟨h, hk, rfl⟩
  | al o =>
    simp only [Dl.appK] at hk
    obtain ⟨tr, h1, h2⟩ := T.setK_sound _ _ _ _ _ (ofK_sound hk)
    exact ⟨_, natK_sound (k := fun n => k ⟨h.ro, n, tr, h.ty⟩) h1, alloc_H h2⟩
  | alT t o =>
    simp only [Dl.appK] at hk
    obtain ⟨tr, h1, h2⟩ := T.setK_sound _ _ _ _ _ (ofK_sound (tagK_sound hk))
    obtain ⟨ty, h3, h4⟩ := T.setK_sound _ _ _ _ _ h1
    exact ⟨_, natK_sound (k := fun n => k ⟨h.ro, n, tr, ty⟩) h3, allocT_H h2 h4⟩
  | st b o vs =>
    simp only [Dl.appK, Bool.and_eq_true] at hk
    obtain ⟨⟨h1, h2⟩, h3⟩ := hk
    split at h3
    · rename_i l hl
      obtain ⟨h4, h5⟩ := wrK_sound _ _ _ _ h3
      obtain ⟨tr, h6, h7⟩ := T.setK_sound _ _ _ _ _ h4
      refine ⟨_, h6, ?_⟩
      rw [upd_H h7]
      have : h.H.store b o vs = some (h.H.upd b (some (.cells (wr l o vs)))) := by
        unfold H.store
        have e : h.H.get b = some (.cells l) := hl
        rw [e]
        simp only
        rw [if_pos ⟨h5, Nat.le_of_ble_eq_true h1, h2⟩]
      simp [Dl.app, this]
    · cases h3
  | up b o =>
    simp only [Dl.appK] at hk
    obtain ⟨tr, h1, h2⟩ := T.setK_sound _ _ _ _ _ (ofK_sound hk)
    exact ⟨_, h1, upd_H h2⟩
  | kl b =>
    simp only [Dl.appK] at hk
    obtain ⟨tr, h1, h2⟩ := T.setK_sound _ _ _ _ _ hk
    exact ⟨_, h1, upd_H h2⟩
  | ka b t o =>
    simp only [Dl.appK] at hk
    obtain ⟨tr, h1, h2⟩ := T.setK_sound _ _ _ _ _ (ofK_sound (tagK_sound hk))
    obtain ⟨tr2, h3, h4⟩ := T.setK_sound _ _ _ _ _ h1
    obtain ⟨ty, h5, h6⟩ := T.setK_sound _ _ _ _ _ h3
    refine ⟨_, natK_sound (k := fun n => k ⟨h.ro, n, tr2, ty⟩) h5, ?_⟩
    have := allocT_H (h := ⟨h.ro, h.next, tr, h.ty⟩) h4 h6
    simp only at this
    rw [this, upd_H h2]
    rfl

theorem F_cons (d : Nat) (v : V) (t : A) : (A.cons d v t).F = t.F.put (some d) v := by
  funext n
  simp only [A.F, F.put]
  by_cases e : n = d
  · subst e; simp
  · have : Nat.beq d n = false := by
      cases hb : Nat.beq d n with
      | false => rfl
      | true => exact absurd (Nat.eq_of_beq_eq_true hb).symm e
    simp [this, e]

theorem putK_sound {t : A} {d : Option Nat} {v : V} {k : A → Bool} (h : putK t d v k = true) : ∃ t', k t' = true ∧ t'.F = t.F.put d v := by
  cases d with
  | none => exact ⟨t, h, rfl⟩
  | some d => exact ⟨_, h, F_cons d v t⟩

theorem keepK_sound (t : A) : ∀ (ks : List Nat) (acc : A) (k : A → Bool), keepK t ks acc k = true → ∃ acc', k acc' = true ∧ ∀ n, acc'.F n = if n ∈ ks then t.F n else acc.F n
  | [], acc, k, h => ⟨acc, h, by simp⟩
  | i :: ks, acc, k, h => by
    simp only [keepK] at h
    obtain ⟨acc', h1, h2⟩ := keepK_sound t ks _ k (exK_sound (k := fun v => keepK t ks (.cons i v acc) k) h)
    refine ⟨acc', h1, fun n => ?_⟩
    rw [h2, F_cons]
    by_cases e : n ∈ ks
    · simp [e]
    · by_cases e2 : n = i
      · subst e2; simp [e, F.put]
      · simp [e, e2, F.put]

theorem frameOf_at (f : F) : ∀ (ks : List Nat) (n : Nat), frameOf ks (ks.map f) n = if n ∈ ks then f n else .bot
  | [], n => by simp [frameOf]
  | k :: ks, n => by
    simp only [List.map_cons, frameOf, frameOf_at f ks]
    by_cases e : n = k
    · subst e; simp
    · simp [e]

theorem keep_sound {t : A} {ks : List Nat} {k : A → Bool} (h : keepK t ks .nil k = true) : ∃ t', k t' = true ∧ t'.F = frameOf ks (ks.map t.F) := by
  obtain ⟨t', h1, h2⟩ := keepK_sound t ks .nil k h
  exact ⟨t', h1, by funext n; rw [h2, frameOf_at]; rfl⟩

mutual
theorem eqVV_sound : ∀ {v v' : V}, eqVV v v' = true → v = v'
  | .bot, v', h => by cases v' <;> simp [eqVV] at h <;> rfl
  | .int k n, v', h => by cases v' <;> simp [eqVV] at h; rw [h.1, h.2]
  | .bool k, v', h => by cases v' <;> simp [eqVV] at h; rw [h]
  | .str k, v', h => by cases v' <;> simp [eqVV] at h; rw [h]
  | .ptr k, v', h => by cases v' <;> simp [eqVV] at h; rw [h]
  | .sl a s n, v', h => by cases v' <;> simp [eqVV] at h; rw [h.1.1, h.1.2, h.2]
  | .sl0, v', h => by cases v' <;> simp [eqVV] at h <;> rfl
  | .sle, v', h => by cases v' <;> simp [eqVV] at h <;> rfl
  | .map k, v', h => by cases v' <;> simp [eqVV] at h; rw [h]
  | .fn _ _ _, v', h => by cases v' <;> simp [eqVV] at h
  | .nilfn, v', h => by cases v' <;> simp [eqVV] at h <;> rfl
  | .nilifc, v', h => by cases v' <;> simp [eqVV] at h <;> rfl
  | .ifc t v, v', h => by cases v' <;> simp [eqVV] at h; rw [h.1, eqVV_sound h.2]
  | .agg l, v', h => by cases v' <;> simp [eqVV] at h; rw [eqVVs_sound h]
  | .tup l, v', h => by cases v' <;> simp [eqVV] at h; rw [eqVVs_sound h]
theorem eqVVs_sound : ∀ {v v' : List V}, eqVVs v v' = true → v = v'
  | [], v', h => by cases v' <;> simp [eqVVs] at h <;> rfl
  | a :: l, v', h => by cases v' <;> simp [eqVVs] at h; rw [eqVV_sound h.1, eqVVs_sound h.2]
end

theorem sameK_sound {ops : List CI} {f : F} {h : H} {r : Nat} (hs : sameK ops f h r = true) : Same ops f h r := by
  unfold sameK at hs
  unfold Same
  cases hr : ops[r]? with
  | none => trivial
  | some cr =>
    simp only [hr] at hs ⊢
    cases hd : cr.dst with
    | none =>
      simp only [hd] at hs ⊢
      exact Option.isSome_iff_exists.1 hs
    | some d =>
      simp only [hd] at hs ⊢
      split at hs
      · rename_i v hv
        rw [hv, eqVV_sound hs]
      · cases hs

section
variable {P : Program} [LibC P]

/-- What a way of calling must be. -/
def OkCall (P : Program) [LibC P] (call : CallK) : Prop := ∀ (f : Nat) (vs : List V) (h : HT) (C : Out → HT → Bool), call f vs h C = true → Tr P f vs h.H fun o h' => ∃ ht : HT, ht.H = h' ∧ C o ht = true

variable {call : CallK} (hcall : OkCall P call)
include hcall

theorem opK_sound {ci : CI} {t : A} {h : HT} {K : A → HT → Bool} {Kp : V → A → HT → Bool} {K' : F → H → Prop} {Kp' : V → F → H → Prop} (hK : ∀ t h, K t h = true → K' t.F h.H) (hKp : ∀ v t h, Kp v t h = true → Kp' v t.F h.H)
    (hr : opK call ci t h K Kp = true) : aOp P ci t.F h.H K' Kp' := by
  unfold opK at hr
  unfold aOp
  rw [← stepD_toR]
  generalize stepD ci.op t.F h.H = r at hr
  cases r with
  | val v d =>
    simp only [RD.toR]
    have h1 : (d.appK h fun h => putK t ci.dst v fun t => K t h) = true := by
      simp only [resK] at hr
      cases hm : mks ci.op with
      | true => rw [hm] at hr; exact sK_sound (k := fun v => d.appK h fun h => putK t ci.dst v fun t => K t h) hr
      | false => rw [hm] at hr; exact rK_sound (k := fun v => d.appK h fun h => putK t ci.dst v fun t => K t h) hr
    obtain ⟨h', h2, h3⟩ := appK_sound h1
    obtain ⟨t', h4, h5⟩ := putK_sound h2
    rw [← h3, ← h5]
    exact hK _ _ h4
  | unit d =>
    simp only [RD.toR]
    obtain ⟨h', h2, h3⟩ := appK_sound (k := fun h => putK t ci.dst (.tup []) fun t => K t h) hr
    obtain ⟨t', h4, h5⟩ := putK_sound h2
    rw [← h3, ← h5]
    exact hK _ _ h4
  | call k vs =>
    simp only [RD.toR]
    simp only [resK] at hr
    refine (hcall k vs h _ (exsK_sound (k := fun vs => call k vs h fun out h => match out with
      | .ret v => putK t ci.dst v fun t => K t h
      | .panic v => Kp v t h) hr)).mono ?_
    rintro o h' ⟨ht, rfl, hC⟩
    cases o with
    | ret v =>
      obtain ⟨t', h4, h5⟩ := putK_sound hC
      simp only
      rw [← h5]
      exact hK _ _ h4
    | panic v => exact hKp _ _ _ hC
  | panic v =>
    simp only [RD.toR]
    exact hKp _ _ _ (rK_sound (k := fun v => Kp v t h) hr)
  | bad => simp [resK] at hr

theorem goK_sound {ops : List CI} {ci : CI} {t : A} {h : HT} {K : A → HT → Bool} {Kp : V → A → HT → Bool} {K' : F → H → Prop} {Kp' : V → F → H → Prop} (hK : ∀ t h, K t h = true → K' t.F h.H) (hKp : ∀ v t h, Kp v t h = true → Kp' v t.F h.H)
    (hr : goK call ops ci t h K Kp = true) : aGo P ops ci t.F h.H K' Kp' := by
  unfold goK at hr
  unfold aGo
  split at hr
  · rename_i hw
    rw [hw]
    exact opK_sound hcall hK hKp hr
  · rename_i hw
    rw [hw]
    obtain ⟨t', h4, h5⟩ := putK_sound hr
    simp only
    rw [← h5]
    exact hK _ _ h4
  · cases hr

theorem opsK_sound {ops : List CI} {K : A → HT → Bool} {Kp : V → A → HT → Bool} {K' : F → H → Prop} {Kp' : V → F → H → Prop} (hK : ∀ t h, K t h = true → K' t.F h.H) (hKp : ∀ v t h, Kp v t h = true → Kp' v t.F h.H) :
    ∀ (rest : List CI) (t : A) (h : HT), opsK call ops K Kp rest t h = true → aOps P ops K' Kp' rest t.F h.H
  | [], t, h, hr => hK t h hr
  | ci :: rest, t, h, hr => goK_sound hcall (fun t h => opsK_sound hK hKp rest t h) hKp hr

theorem drawK_sound {ops : List CI} {lt : List Nat} {K : A → HT → Bool} {Kp : V → A → HT → Bool} {K' : F → H → Prop} {Kp' : V → F → H → Prop} (hK : ∀ t h, K t h = true → K' t.F h.H) (hKp : ∀ v t h, Kp v t h = true → Kp' v t.F h.H) :
    ∀ (rest done : List Nat) (t : A) (h : HT), drawK call ops lt K Kp rest done t h = true → aDraw P ops lt K' Kp' rest done t.F h.H
  | [], done, t, h, hr => hK t h hr
  | i :: rest, done, t, h, hr => by
    simp only [drawK, Bool.and_eq_true] at hr
    simp only [aDraw]
    refine ⟨hr.1, ?_⟩
    replace hr := hr.2
    cases hi : ops[i]? with
    | none => simp [hi] at hr
    | some ci =>
      simp only [hi] at hr ⊢
      cases hrd : rdOnly ci.op with
      | true =>
        simp only [hrd, cond_true] at hr
        simp only [if_true]
        split at hr
        · rename_i v hv
          rw [hv]
          obtain ⟨t', h4, h5⟩ := putK_sound (sK_sound (k := fun v => putK t ci.dst v fun t => drawK call ops lt K Kp rest (i :: done) t h) hr)
          simp only
          rw [← h5]
          exact drawK_sound hK hKp rest (i :: done) t' h h4
        · cases hr
      | false =>
        simp only [hrd, cond_false] at hr
        simp only [Bool.false_eq_true, if_false]
        refine goK_sound hcall ?_ hKp hr
        intro t h hh
        simp only [Bool.and_eq_true, List.all_eq_true] at hh
        exact ⟨fun r hr => sameK_sound (hh.1 r hr), drawK_sound hK hKp rest (i :: done) t h hh.2⟩
end
end Go.Ab

/-! Calls with closed arguments: proved once, in an empty memory, they hold in any. -/
set_option linter.unusedVariables false
set_option linter.unusedSimpArgs false
set_option linter.unusedSectionVars false
namespace Go.Ab
open Go.RowKit

theorem rens_length (ρ : Nat → Nat) : ∀ l : List V, (V.rens ρ l).length = l.length
  | [] => rfl
  | _ :: l => by simp [V.rens, rens_length ρ l]

mutual
/-- How names are changed, and numbers of names. -/
theorem VRel.ren {g g' : G} {N N' : Nat} {ρ : Nat → Nat} (h : ∀ b, b < N → ρ b < N' ∧ g'.ι (ρ b) = g.ι b ∧ g'.κ (ρ b) = g.κ b) : ∀ {v : V} {x : Value}, VRel g N v x → VRel g' N' (v.ren ρ) x
  | .bot, _, _ => by simp only [V.ren, VRel]
  | .int _ _, _, hv => by simp only [V.ren, VRel] at hv ⊢; exact hv
  | .bool _, _, hv => by simp only [V.ren, VRel] at hv ⊢; exact hv
  | .str _, _, hv => by simp only [V.ren, VRel] at hv ⊢; exact hv
  | .ptr none, _, hv => by simp only [V.ren, VRel] at hv ⊢; exact hv
  | .ptr (some (b, o)), _, hv => by
    simp only [V.ren, VRel] at hv ⊢
    obtain ⟨h1, h2, _⟩ := h b hv.1
    exact ⟨h1, by rw [h2]; exact hv.2⟩
  | .sl none _ _, _, hv => by simp only [V.ren, VRel] at hv ⊢; exact hv
  | .sl (some (b, o)) sz n, _, hv => by
    simp only [V.ren, VRel] at hv ⊢
    obtain ⟨h1, c, h2, h3, h4, h5⟩ := hv
    obtain ⟨q1, q2, q3⟩ := h b h1
    exact ⟨q1, c, h2, h3, by rw [q3]; exact h4, by rw [q2]; exact h5⟩
  | .sl0, _, hv => by simp only [V.ren, VRel] at hv ⊢; exact hv
  | .sle, _, hv => by simp only [V.ren, VRel] at hv ⊢; exact hv
  | .map none, _, hv => by simp only [V.ren, VRel] at hv ⊢; exact hv
  | .map (some r), _, hv => by
    simp only [V.ren, VRel] at hv ⊢
    obtain ⟨h1, h2, _⟩ := h r hv.1
    exact ⟨h1, by rw [h2]; exact hv.2⟩
  | .fn f l m, _, hv => by
    simp only [V.ren, VRel] at hv ⊢
    obtain ⟨c, d, h1, h2, h3⟩ := hv
    exact ⟨c, d, h1, VsRel.ren h h2, VsRel.ren h h3⟩
  | .nilfn, _, hv => by simp only [V.ren, VRel] at hv ⊢; exact hv
  | .ifc t v, _, hv => by
    simp only [V.ren, VRel] at hv ⊢
    obtain ⟨y, h1, h2⟩ := hv
    exact ⟨y, h1, VRel.ren h h2⟩
  | .nilifc, _, hv => by simp only [V.ren, VRel] at hv ⊢; exact hv
  | .agg l, _, hv => by
    simp only [V.ren, VRel] at hv ⊢
    obtain ⟨c, h1, h2⟩ := hv
    exact ⟨c, h1, VsRel.ren h h2⟩
  | .tup l, _, hv => by
    simp only [V.ren, VRel] at hv ⊢
    obtain ⟨c, h1, h2⟩ := hv
    exact ⟨c, h1, VsRel.ren h h2⟩
theorem VsRel.ren {g g' : G} {N N' : Nat} {ρ : Nat → Nat} (h : ∀ b, b < N → ρ b < N' ∧ g'.ι (ρ b) = g.ι b ∧ g'.κ (ρ b) = g.κ b) : ∀ {v : List V} {x : List Value}, VsRel g N v x → VsRel g' N' (V.rens ρ v) x
  | [], _, hv => by simp only [V.rens, VsRel] at hv ⊢; exact hv
  | v :: vs, _, hv => by
    simp only [V.rens, VsRel] at hv ⊢
    obtain ⟨y, ys, h1, h2, h3⟩ := hv
    exact ⟨y, ys, h1, VRel.ren h h2, VsRel.ren h h3⟩
end

mutual
/-- .. the other way: the names that stand in a value. -/
theorem VRel.unren {g g' : G} {N N' : Nat} {ρ : Nat → Nat} : ∀ {v : V} {x : Value}, (∀ b, v.has b = true → b < N ∧ g'.ι (ρ b) = g.ι b ∧ g'.κ (ρ b) = g.κ b) → VRel g' N' (v.ren ρ) x → VRel g N v x
  | .bot, _, _, _ => by simp only [VRel]
  | .int _ _, _, _, hv => by simp only [V.ren, VRel] at hv ⊢; exact hv
  | .bool _, _, _, hv => by simp only [V.ren, VRel] at hv ⊢; exact hv
  | .str _, _, _, hv => by simp only [V.ren, VRel] at hv ⊢; exact hv
  | .ptr none, _, _, hv => by simp only [V.ren, VRel] at hv ⊢; exact hv
  | .ptr (some (b, o)), _, h, hv => by
    simp only [V.ren, VRel] at hv ⊢
    obtain ⟨h1, h2, _⟩ := h b (by simp [V.has])
    exact ⟨h1, by rw [← h2]; exact hv.2⟩
  | .sl none _ _, _, _, hv => by simp only [V.ren, VRel] at hv ⊢; exact hv
  | .sl (some (b, o)) sz n, _, h, hv => by
    simp only [V.ren, VRel] at hv ⊢
    obtain ⟨h1, c, h2, h3, h4, h5⟩ := hv
    obtain ⟨q1, q2, q3⟩ := h b (by simp [V.has])
    exact ⟨q1, c, h2, h3, by rw [← q3]; exact h4, by rw [← q2]; exact h5⟩
  | .sl0, _, _, hv => by simp only [V.ren, VRel] at hv ⊢; exact hv
  | .sle, _, _, hv => by simp only [V.ren, VRel] at hv ⊢; exact hv
  | .map none, _, _, hv => by simp only [V.ren, VRel] at hv ⊢; exact hv
  | .map (some r), _, h, hv => by
    simp only [V.ren, VRel] at hv ⊢
    obtain ⟨h1, h2, _⟩ := h r (by simp [V.has])
    exact ⟨h1, by rw [← h2]; exact hv.2⟩
  | .fn f l m, _, h, hv => by
    simp only [V.ren, VRel] at hv ⊢
    obtain ⟨c, d, h1, h2, h3⟩ := hv
    exact ⟨c, d, h1, VsRel.unren (fun b hb => h b (by simp [V.has, hb])) h2, VsRel.unren (fun b hb => h b (by simp [V.has, hb])) h3⟩
  | .nilfn, _, _, hv => by simp only [V.ren, VRel] at hv ⊢; exact hv
  | .ifc t v, _, h, hv => by
    simp only [V.ren, VRel] at hv ⊢
    obtain ⟨y, h1, h2⟩ := hv
    exact ⟨y, h1, VRel.unren (fun b hb => h b (by simp [V.has, hb])) h2⟩
  | .nilifc, _, _, hv => by simp only [V.ren, VRel] at hv ⊢; exact hv
  | .agg l, _, h, hv => by
    simp only [V.ren, VRel] at hv ⊢
    obtain ⟨c, h1, h2⟩ := hv
    exact ⟨c, h1, VsRel.unren (fun b hb => h b (by simp [V.has, hb])) h2⟩
  | .tup l, _, h, hv => by
    simp only [V.ren, VRel] at hv ⊢
    obtain ⟨c, h1, h2⟩ := hv
    exact ⟨c, h1, VsRel.unren (fun b hb => h b (by simp [V.has, hb])) h2⟩
theorem VsRel.unren {g g' : G} {N N' : Nat} {ρ : Nat → Nat} : ∀ {v : List V} {x : List Value}, (∀ b, V.hass v b = true → b < N ∧ g'.ι (ρ b) = g.ι b ∧ g'.κ (ρ b) = g.κ b) → VsRel g' N' (V.rens ρ v) x → VsRel g N v x
  | [], _, _, hv => by simp only [V.rens, VsRel] at hv ⊢; exact hv
  | v :: vs, _, h, hv => by
    simp only [V.rens, VsRel] at hv ⊢
    obtain ⟨y, ys, h1, h2, h3⟩ := hv
    exact ⟨y, ys, h1, VRel.unren (fun b hb => h b (by simp [V.hass, hb])) h2, VsRel.unren (fun b hb => h b (by simp [V.hass, hb])) h3⟩
end

theorem rens_take (ρ : Nat → Nat) : ∀ (n : Nat) (l : List V), (V.rens ρ l).take n = V.rens ρ (l.take n)
  | 0, l => by simp [V.rens]
  | n + 1, [] => by simp [V.rens]
  | n + 1, v :: l => by simp [V.rens, rens_take ρ n l]

theorem MRel.ren {g g' : G} {N N' : Nat} {ρ : Nat → Nat} (h : ∀ b, b < N → ρ b < N' ∧ g'.ι (ρ b) = g.ι b ∧ g'.κ (ρ b) = g.κ b) : ∀ {l : List (V × V)} {es : List MapEntry}, MRel g N l es → MRel g' N' (l.map fun e => (e.1.ren ρ, e.2.ren ρ)) es
  | [], _, hv => by simp only [List.map_nil, MRel] at hv ⊢; exact hv
  | (k, v) :: l, _, hv => by
    simp only [List.map_cons, MRel] at hv ⊢
    obtain ⟨e, r, h1, h2, h3, h4⟩ := hv
    exact ⟨e, r, h1, h2.ren h, h3.ren h, MRel.ren h h4⟩

theorem MRel.unren {g g' : G} {N N' : Nat} {ρ : Nat → Nat} : ∀ {l : List (V × V)} {es : List MapEntry}, (∀ b, (l.any fun e => e.1.has b || e.2.has b) = true → b < N ∧ g'.ι (ρ b) = g.ι b ∧ g'.κ (ρ b) = g.κ b) → MRel g' N' (l.map fun e => (e.1.ren ρ, e.2.ren ρ)) es → MRel g N l es
  | [], _, _, hv => by simp only [List.map_nil, MRel] at hv ⊢; exact hv
  | (k, v) :: l, _, h, hv => by
    simp only [List.map_cons, MRel] at hv ⊢
    obtain ⟨e, r, h1, h2, h3, h4⟩ := hv
    exact ⟨e, r, h1, VRel.unren (fun b hb => h b (by simp [hb])) h2, VRel.unren (fun b hb => h b (by simp [hb])) h3, MRel.unren (fun b hb => h b (by rw [List.any_cons]; simp [hb])) h4⟩

theorem ORel.ren {g g' : G} {N N' : Nat} {rw rw' : Prop} {κ : Nat} {ρ : Nat → Nat} (h : ∀ b, b < N → ρ b < N' ∧ g'.ι (ρ b) = g.ι b ∧ g'.κ (ρ b) = g.κ b) (hr : rw' → rw) {o : O} {X : Obj} (ho : ORel g N rw κ o X) : ORel g' N' rw' κ (o.ren ρ) X := by
  cases o with
  | cells l =>
    obtain ⟨c, e, fr, h1, h2, h3, h4, h5⟩ := ho
    exact ⟨c, e, fr, h1, h2, fun q => h3 (hr q), by rw [rens_length]; exact h4, by rw [rens_length]; exact h5.ren h⟩
  | map l =>
    obtain ⟨es, clk, h1, h2⟩ := ho
    exact ⟨es, clk, h1, h2.ren h⟩

theorem ORel.unren {g g' : G} {N N' : Nat} {rw rw' : Prop} {κ : Nat} {ρ : Nat → Nat} {o : O} (h : ∀ b, o.has b = true → b < N ∧ g'.ι (ρ b) = g.ι b ∧ g'.κ (ρ b) = g.κ b) (hr : rw → rw') {X : Obj} (ho : ORel g' N' rw' κ (o.ren ρ) X) : ORel g N rw κ o X := by
  cases o with
  | cells l =>
    obtain ⟨c, e, fr, h1, h2, h3, h4, h5⟩ := ho
    rw [rens_length] at h4 h5
    exact ⟨c, e, fr, h1, h2, fun q => h3 (hr q), h4, VsRel.unren h h5⟩
  | map l =>
    obtain ⟨es, clk, h1, h2⟩ := ho
    exact ⟨es, clk, h1, MRel.unren h h2⟩

theorem ERel.ren {g g' : G} {N N' : Nat} {ρ : Nat → Nat} (h : ∀ b, b < N → ρ b < N' ∧ g'.ι (ρ b) = g.ι b ∧ g'.κ (ρ b) = g.κ b) {o : Out} {e : Ending} (ho : ERel g N o e) : ERel g' N' (o.ren ρ) e := by
  cases o <;> cases e <;> simp only [ERel, Out.ren] at ho ⊢
  · exact ho.ren h
  · obtain ⟨x, h1, h2⟩ := ho
    exact ⟨x, h1, h2.ren h⟩
theorem ERel.unren {g g' : G} {N N' : Nat} {ρ : Nat → Nat} {o : Out} (h : ∀ b, o.has b = true → b < N ∧ g'.ι (ρ b) = g.ι b ∧ g'.κ (ρ b) = g.κ b) {e : Ending} (ho : ERel g' N' (o.ren ρ) e) : ERel g N o e := by
  cases o <;> cases e <;> simp only [ERel, Out.ren] at ho ⊢
  · exact VRel.unren h ho
  · obtain ⟨x, h1, h2⟩ := ho
    exact ⟨x, h1, VRel.unren h h2⟩

/-- Two memories, the second one's names behind those of the first one. -/
def H.join (h h1 : H) : H :=
  { ro := h.ro, next := h.next + h1.next, get := fun b => if b < h.next then h.get b else match h1.get (b - h.next) with
      | some o => some (o.ren (· + h.next))
      | none => h.get b,
    ty := fun b => if b < h.next then h.ty b else match h1.ty (b - h.next) with
      | some t => some t
      | none => h.ty b }

def emptyH : H := { ro := 0, next := 0, get := fun _ => none, ty := fun _ => none }

section
variable {P : Program} [LibC P]

theorem emptyRel {c : Base} {g : G} : Rel c g emptyH c.W :=
  ⟨fun b o h => by simp [emptyH] at h, fun b o h => by simp [emptyH] at h, fun b b' o o' h => by simp [emptyH] at h, fun b o h => by simp [emptyH] at h, ⟨rfl, rfl, rfl, Nat.le_refl _, fun _ _ => rfl⟩, fun b t m h => by simp [emptyH] at h, fun b o h => by simp [emptyH] at h⟩

/-- **What a call does in an empty memory it does in any.** -/
theorem Tr.frame {k : Nat} {args : List V} (hcl : ∀ b, V.hass args b = false) {Q : Out → H → Prop} (t : Tr P k args emptyH fun o h1 => h1.ro = 0 ∧ Q o h1) (h : H) : Tr P k args h fun o h' => ∃ o1 h1, Q o1 h1 ∧ o = o1.ren (· + h.next) ∧ h' = h.join h1 := by
  refine ⟨t.1, fun c hL g w xs R hx => ?_⟩
  let S' : Nat → Prop := fun i => c.S i ∨ ∃ b o, h.get b = some o ∧ g.ι b = i
  let c' : Base := ⟨w, S', S', fun i hi => by
    rcases hi with hi | ⟨b, o, hb, rfl⟩
    · have := c.lt i hi; have := R.bel.size; omega
    · exact R.lt hb, fun i hi => hi⟩
  have hL' : LibB P c' := by
    intro w' hw
    refine hL w' fun i hi => ?_
    rw [hw i (.inl hi)]
    exact R.bel.block i hi
  have hx' : ∀ {g0 : G}, VsRel g0 0 args xs.toList := by
    intro g0
    have hid : ∀ l : List V, V.rens id l = l := by
      have : (∀ v : V, V.ren id v = v) := by
        intro v
        exact V.rec (motive_1 := fun v => V.ren id v = v) (motive_2 := fun l => V.rens id l = l)
          rfl (fun _ _ => rfl) (fun _ => rfl) (fun _ => rfl) (fun a => by rcases a with _ | ⟨b, o⟩ <;> rfl) (fun a s n => by rcases a with _ | ⟨b, o⟩ <;> rfl) rfl rfl (fun r => by cases r <;> rfl)
          (fun f l m h1 h2 => by simp [V.ren, h1, h2]) rfl (fun t v h => by simp [V.ren, h]) rfl (fun l h => by simp [V.ren, h]) (fun l h => by simp [V.ren, h]) rfl (fun v l h1 h2 => by simp [V.rens, h1, h2]) v
      intro l
      induction l with
      | nil => rfl
      | cons v l ih => simp [V.rens, this, ih]
    refine VsRel.unren (ρ := id) (fun b hb => by rw [hcl] at hb; cases hb) ?_ (g' := g) (N' := h.next)
    rw [hid]
    exact hx
  refine (t.2 c' hL' g w xs (emptyRel (c := c')) hx').mono ?_
  rintro e w' ⟨o1, h1, g1, ⟨hro, hq⟩, R1, _, _, er⟩
  let g' : G := ⟨fun b => if b < h.next then g.ι b else g1.ι (b - h.next), fun b => if b < h.next then g.κ b else g1.κ (b - h.next)⟩
  have hag : Agree h.next g g' := fun b hb => by simp [g', hb]
  have hsh : ∀ b, b < h1.next → b + h.next < (h.join h1).next ∧ g'.ι (b + h.next) = g1.ι b ∧ g'.κ (b + h.next) = g1.κ b := by
    intro b hb
    have : ¬ b + h.next < h.next := by omega
    refine ⟨by simp [H.join]; omega, ?_, ?_⟩
    · show (if b + h.next < h.next then g.ι (b + h.next) else g1.ι (b + h.next - h.next)) = g1.ι b
      rw [if_neg this, Nat.add_sub_cancel]
    · show (if b + h.next < h.next then g.κ (b + h.next) else g1.κ (b + h.next - h.next)) = g1.κ b
      rw [if_neg this, Nat.add_sub_cancel]
  have hget : ∀ b o, (h.join h1).get b = some o → (b < h.next ∧ h.get b = some o) ∨ (h.next ≤ b ∧ ∃ o1, h1.get (b - h.next) = some o1 ∧ o = o1.ren (· + h.next)) := by
    intro b o hb
    simp only [H.join] at hb
    split at hb
    · exact .inl ⟨‹_›, hb⟩
    · rename_i hlt
      cases h3 : h1.get (b - h.next) with
      | none =>
        simp only [h3] at hb
        exact absurd (R.dom b o hb) hlt
      | some o1 => simp [h3] at hb; exact .inr ⟨by omega, o1, rfl, hb.symm⟩
  have hle : h.next ≤ (h.join h1).next := by simp [H.join]
  have hold : ∀ b, b < h.next → g'.ι b = g.ι b := fun b hb => (hag b hb).1
  have hnew : ∀ b, h.next ≤ b → g'.ι b = g1.ι (b - h.next) := fun b hb => by simp [g', show ¬ b < h.next by omega]
  have hblk : ∀ b o, h.get b = some o → w'.heap[g.ι b]? = w.heap[g.ι b]? := fun b o hb => R1.bel.block _ (.inr ⟨b, o, hb, rfl⟩)
  refine ⟨o1.ren (· + h.next), h.join h1, g', ⟨o1, h1, hq, rfl, rfl⟩, ⟨?_, ?_, ?_, ?_, ?_, ?_, ?_⟩, hag, hle, er.ren hsh⟩
  · intro b o hb
    rcases hget b o hb with ⟨h2, _⟩ | ⟨h2, o1, h3, rfl⟩
    · omega
    · have := R1.dom _ _ h3
      simp only [H.join]; omega
  · intro b o hb
    rcases hget b o hb with ⟨h2, h3⟩ | ⟨h2, o1, h3, rfl⟩
    · obtain ⟨X, hX, hO⟩ := R.obj b o h3
      exact ⟨X, by rw [hold b h2, hblk b o h3]; exact hX, by rw [(hag b h2).2]; exact hO.mono hag hle⟩
    · obtain ⟨X, hX, hO⟩ := R1.obj _ _ h3
      have e2 : g'.κ b = g1.κ (b - h.next) := by simp [g', show ¬ b < h.next by omega]
      exact ⟨X, by rw [hnew b h2]; exact hX, by rw [e2]; exact hO.ren hsh (fun _ => by rw [hro]; exact Nat.zero_le _)⟩
  · intro b b' o o' hb hb' e
    rcases hget b o hb with ⟨h2, h3⟩ | ⟨h2, o1, h3, rfl⟩ <;> rcases hget b' o' hb' with ⟨h2', h3'⟩ | ⟨h2', o1', h3', rfl⟩
    · rw [hold b h2, hold b' h2'] at e; exact R.inj b b' o o' h3 h3' e
    · rw [hold b h2, hnew b' h2'] at e
      exact absurd (Or.inr ⟨b, o, h3, e⟩ : S' _) (R1.own _ _ h3' (by rw [hro]; exact Nat.zero_le _))
    · rw [hnew b h2, hold b' h2'] at e
      exact absurd (Or.inr ⟨b', o', h3', e.symm⟩ : S' _) (R1.own _ _ h3 (by rw [hro]; exact Nat.zero_le _))
    · rw [hnew b h2, hnew b' h2'] at e
      have := R1.inj _ _ _ _ h3 h3' e
      omega
  · intro b o hb hr
    rcases hget b o hb with ⟨h2, h3⟩ | ⟨h2, o1, h3, rfl⟩
    · rw [hold b h2]; exact R.own b o h3 hr
    · rw [hnew b h2]; exact fun hs => R1.own _ _ h3 (by rw [hro]; exact Nat.zero_le _) (.inl hs)
  · exact Kept.trans (c' := c') R.bel R1.bel (fun i hi => .inl hi)
  · intro b t' m hb
    simp only [H.join] at hb ⊢
    by_cases hlt : b < h.next
    · rw [if_pos hlt] at hb
      obtain ⟨q1, q2⟩ := R.typ b t' m hb
      refine ⟨by omega, fun o ho => ?_⟩
      rw [if_pos hlt] at ho
      obtain ⟨C, fr, z1, z2⟩ := q2 o ho
      exact ⟨C, fr, by rw [hold b hlt, hblk b o ho]; exact z1, z2⟩
    · rw [if_neg hlt] at hb
      cases h4 : h1.ty (b - h.next) with
      | none =>
        simp only [h4] at hb
        exact absurd (R.typ b t' m hb).1 hlt
      | some t1 =>
        simp only [h4] at hb
        rw [hb] at h4
        obtain ⟨q1, q2⟩ := R1.typ _ t' m h4
        refine ⟨by omega, fun o ho => ?_⟩
        rw [if_neg hlt] at ho
        cases h3 : h1.get (b - h.next) with
        | none =>
          simp only [h3] at ho
          exact absurd (R.dom b o ho) hlt
        | some o1 =>
          obtain ⟨C, fr, z1, z2⟩ := q2 o1 h3
          exact ⟨C, fr, by rw [hnew b (by omega)]; exact z1, z2⟩
  · intro b o hb
    rcases hget b o hb with ⟨h2, h3⟩ | ⟨h2, o1, h3, rfl⟩
    · rw [hold b h2]; exact R.hid b o h3
    · rw [hnew b h2]; exact fun hz => R1.hid _ _ h3 (.inl (c.zs _ hz))

/-- A memory of which the blocks are given. -/
def litH (l : List O) : H := { ro := 0, next := l.length, get := fun b => l[b]?, ty := fun _ => none }

/-- Of a memory some blocks, under new names. -/
theorem Rel.compact {c : Base} {g : G} {h : H} {w : World} (R : Rel c g h w) (hro : h.ro = 0) {l : List O} {ρ : List Nat} (hlen : l.length = ρ.length) (hnd : ρ.Nodup) (hget : ∀ i o, l[i]? = some o → h.get (ρ.getD i 0) = some (o.ren fun b => ρ.getD b 0)) (hhas : ∀ o ∈ l, ∀ b, o.has b = true → b < l.length) :
    Rel c ⟨fun b => g.ι (ρ.getD b 0), fun b => g.κ (ρ.getD b 0)⟩ (litH l) w := by
  have hlt : ∀ b o, l[b]? = some o → b < l.length := fun b o hb => (List.getElem?_eq_some_iff.1 hb).1
  refine ⟨hlt, ?_, ?_, ?_, R.bel, fun b t m hb => by simp [litH] at hb, ?_⟩
  · intro b o hb
    obtain ⟨X, hX, hO⟩ := R.obj _ _ (hget b o hb)
    refine ⟨X, hX, ?_⟩
    refine ORel.unren (ρ := fun b => ρ.getD b 0) (fun d hd => ⟨hhas o (List.mem_of_getElem? hb) d hd, rfl, rfl⟩) (fun _ => by rw [hro]; exact Nat.zero_le _) hO
  · intro b b' o o' hb hb' e
    have := R.inj _ _ _ _ (hget b o hb) (hget b' o' hb') e
    have h1 := hlt b o hb
    have h2 := hlt b' o' hb'
    rw [List.getD, List.getD, List.getElem?_eq_getElem (by omega), List.getElem?_eq_getElem (by omega)] at this
    exact (List.getElem_inj hnd).1 (by simpa using this)
  · intro b o hb _
    exact R.own _ _ (hget b o hb) (by rw [hro]; exact Nat.zero_le _)
  · intro b o hb
    exact R.hid _ _ (hget b o hb)

/-- What a machine's end must be. -/
def litOK (ρ : List Nat) (o0 : Out) (l : List O) (o : Out) (h : H) : Prop :=
  h.ro = 0 ∧ o = o0.ren (fun b => ρ.getD b 0) ∧ (∀ b, o0.has b = true → b < l.length) ∧ l.length = ρ.length ∧ ρ.Nodup ∧ (∀ i o, l[i]? = some o → h.get (ρ.getD i 0) = some (o.ren fun b => ρ.getD b 0)) ∧ ∀ o ∈ l, ∀ b, o.has b = true → b < l.length

theorem Tr.lit {k : Nat} {args : List V} {ρ : List Nat} {o0 : Out} {l : List O} (t : Tr P k args emptyH (litOK ρ o0 l)) : Tr P k args emptyH fun o h1 => h1.ro = 0 ∧ o = o0 ∧ h1 = litH l := by
  refine ⟨t.1, fun c hL g w xs R hx => (t.2 c hL g w xs R hx).mono ?_⟩
  rintro e w' ⟨o, h', g', ⟨q1, q2, q3, q4, q5, q6, q7⟩, R', _, _, er⟩
  subst q2
  refine ⟨o0, litH l, _, ⟨rfl, rfl, rfl⟩, R'.compact q1 q4 q5 q6 q7, fun b hb => by simp [emptyH] at hb, Nat.zero_le _, ?_⟩
  exact ERel.unren (ρ := fun b => ρ.getD b 0) (fun b hb => ⟨q3 b hb, rfl, rfl⟩) er

theorem Tr.closed {k : Nat} {args : List V} (hcl : ∀ b, V.hass args b = false) {ρ : List Nat} {o0 : Out} {l : List O} (t : Tr P k args emptyH (litOK ρ o0 l)) (h : H) : Tr P k args h fun o h' => o = o0.ren (· + h.next) ∧ h' = h.join (litH l) :=
  (Tr.frame hcl (Q := fun o h1 => o = o0 ∧ h1 = litH l) (t.lit) h).mono fun o h' ⟨o1, h1, ⟨e1, e2⟩, e3, e4⟩ => ⟨by rw [e3, e1], by rw [e4, e2]⟩
end
end Go.Ab

/-! The machine that the kernel can run says the truth: code and calls. -/
set_option linter.unusedVariables false
set_option linter.unusedSectionVars false
set_option linter.unusedSimpArgs false
namespace Go.Ab
section
variable {P : Program} [LibC P]

theorem aGo_mono {ops : List CI} {ci : CI} {f : F} {h : H} {K K' : F → H → Prop} {Kp Kp' : V → F → H → Prop} (hk : ∀ f h, K f h → K' f h) (hp : ∀ v f h, Kp v f h → Kp' v f h) (ha : aGo P ops ci f h K Kp) : aGo P ops ci f h K' Kp' := by
  unfold aGo at *
  generalize want ops f ci = wv at ha
  rcases wv with _ | _ | _
  · exact ha.elim
  · exact hk _ _ ha
  · simp only at ha ⊢
    unfold aOp at *
    generalize step f h ci.op = r at ha
    cases r with
    | val v h' => exact hk _ _ ha
    | unit h' => exact hk _ _ ha
    | call k vs =>
      refine ha.mono fun o h' q => ?_
      cases o with
      | ret v => exact hk _ _ q
      | panic v => exact hp _ _ _ q
    | panic v => exact hp _ _ _ ha
    | bad => exact ha.elim

theorem aDraw_mono {ops : List CI} {lt : List Nat} {K K' : F → H → Prop} {Kp Kp' : V → F → H → Prop} (hk : ∀ f h, K f h → K' f h) (hp : ∀ v f h, Kp v f h → Kp' v f h) : ∀ (rest done : List Nat) (f : F) (h : H), aDraw P ops lt K Kp rest done f h → aDraw P ops lt K' Kp' rest done f h
  | [], done, f, h, ha => hk _ _ ha
  | i :: rest, done, f, h, ha => by
    simp only [aDraw] at ha ⊢
    refine ⟨ha.1, ?_⟩
    replace ha := ha.2
    split at ha
    · exact ha.elim
    · split at ha
      · rename_i hrd
        rw [if_pos hrd]
        split at ha
        · exact aDraw_mono hk hp rest _ _ _ ha
        · exact ha.elim
      · rename_i hrd
        rw [if_neg hrd]
        exact aGo_mono (fun f h q => ⟨q.1, aDraw_mono hk hp rest _ _ _ q.2⟩) hp ha

variable {call : CallK} (hcall : OkCall P call) {L : Nat} {pf : Bool}
include hcall

theorem execK_sound : ∀ (cc : CC) (K : Ex → A → HT → Bool) (Q : Ex → F → H → Prop) (hKQ : ∀ e t h, K e t h = true → Q e t.F h.H) (hpf : pf = true → ∀ v t h f, K (.panic v) t h = true → Q (.panic v) f h.H) (t : A) (h : HT),
    execK cc call L pf K t h = true → awp P cc Q t.F h.H
  | .skip, K, Q, hKQ, hpf, t, h, hr => hKQ _ _ _ hr
  | .region true ops, K, Q, hKQ, hpf, t, h, hr => by simp [execK] at hr
  | .regionP perm lt ops, K, Q, hKQ, hpf, t, h, hr => by
    simp only [execK, Bool.and_eq_true] at hr
    simp only [awp]
    refine aDraw_mono (K := Q .normal) (Kp := fun v _ h => ∃ ht : HT, ht.H = h ∧ pf = true ∧ K (.panic v) .nil ht = true) (fun _ _ h => h) ?_ _ _ _ _ (drawK_sound hcall (fun t h => hKQ _ t h) ?_ _ _ _ _ hr.2)
    · rintro v f h ⟨ht, rfl, h1, h2⟩ f'
      exact hpf h1 v _ _ f' h2
    · intro v t h hh
      simp only [Bool.and_eq_true] at hh
      exact ⟨h, rfl, hh.1, hh.2⟩
  | .region false ops, K, Q, hKQ, hpf, t, h, hr => by
    simp only [awp, true_and]
    exact opsK_sound hcall (K := K .normal) (Kp := fun v => K (.panic v)) (fun t h => hKQ _ t h) (fun v t h => hKQ _ t h) _ _ _ hr
  | .seq a b, K, Q, hKQ, hpf, t, h, hr => by
    simp only [awp]
    refine execK_sound a _ _ ?_ ?_ t h hr
    · intro e t h hh
      cases e with
      | normal => exact execK_sound b K Q hKQ hpf t h hh
      | exit id => exact hKQ _ _ _ hh
      | goto l => exact hKQ _ _ _ hh
      | ret => exact hKQ _ _ _ hh
      | panic v => exact hKQ _ _ _ hh
    · intro hp v t h f hh
      exact hpf hp v t h f hh
  | .seqK ks a b, K, Q, hKQ, hpf, t, h, hr => by
    simp only [awp]
    refine ⟨fun vs h' => ∃ (t' : A) (ht : HT), ht.H = h' ∧ t'.F = frameOf ks vs ∧ execK b call L pf K t' ht = true, execK_sound a _ _ ?_ ?_ t h hr, ?_⟩
    · intro e t h hh
      cases e with
      | normal =>
        obtain ⟨t', h1, h2⟩ := keep_sound hh
        exact ⟨t', h, rfl, h2, h1⟩
      | exit id => exact hKQ _ _ _ hh
      | goto l => exact hKQ _ _ _ hh
      | ret => exact hKQ _ _ _ hh
      | panic v => exact hKQ _ _ _ hh
    · intro hp v t h f hh
      exact hpf hp v t h f hh
    · rintro vs h' ⟨t', ht, rfl, h2, h3⟩
      rw [← h2]
      exact execK_sound b K Q hKQ hpf t' ht h3
  | .cond x a b, K, Q, hKQ, hpf, t, h, hr => by
    simp only [execK] at hr
    simp only [awp]
    split at hr
    · rename_i hx; rw [hx]; exact execK_sound a K Q hKQ hpf t h hr
    · rename_i hx; rw [hx]; exact execK_sound b K Q hKQ hpf t h hr
    · cases hr
  | .block id b, K, Q, hKQ, hpf, t, h, hr => by
    simp only [awp]
    refine execK_sound b _ _ ?_ ?_ t h hr
    · intro e t h hh
      cases e with
      | normal => exact hKQ _ _ _ hh
      | exit id' =>
        simp only at hh ⊢
        cases hb : Nat.beq id' id with
        | true =>
          rw [hb] at hh
          rw [if_pos (Nat.eq_of_beq_eq_true hb)]
          exact hKQ _ _ _ hh
        | false =>
          rw [hb] at hh
          rw [if_neg (Nat.ne_of_beq_eq_false hb)]
          exact hKQ _ _ _ hh
      | goto l => exact hKQ _ _ _ hh
      | ret => exact hKQ _ _ _ hh
      | panic v => exact hKQ _ _ _ hh
    · intro hp v t h f hh
      exact hpf hp v t h f hh
  | .loop ks b, K, Q, hKQ, hpf, t, h, hr => by
    simp only [awp]
    obtain ⟨t0, h1, h2⟩ := keep_sound (k := fun t => loopK (execK b call L pf) ks K L t h) hr
    refine ⟨fun n vs h' => ∃ (t' : A) (ht : HT), ht.H = h' ∧ t'.F = frameOf ks vs ∧ loopK (execK b call L pf) ks K n t' ht = true, ⟨L, t0, h, rfl, h2, h1⟩, ?_⟩
    rintro n vs h' ⟨t', ht, rfl, h3, h4⟩
    cases n with
    | zero => simp [loopK] at h4
    | succ n =>
      rw [← h3]
      refine execK_sound b _ _ ?_ ?_ t' ht h4
      · intro e t h hh
        cases e with
        | normal =>
          obtain ⟨t1, h5, h6⟩ := keep_sound hh
          exact ⟨n, by omega, t1, h, rfl, h6, h5⟩
        | exit id => exact hKQ _ _ _ hh
        | goto l => exact hKQ _ _ _ hh
        | ret => exact hKQ _ _ _ hh
        | panic v => exact hKQ _ _ _ hh
      · intro hp v t h f hh
        exact hpf hp v t h f hh
  | .exit id, K, Q, hKQ, hpf, t, h, hr => hKQ _ _ _ hr
  | .ret, K, Q, hKQ, hpf, t, h, hr => hKQ _ _ _ hr
  | .scope b, K, Q, hKQ, hpf, t, h, hr => by
    simp only [awp]
    refine execK_sound b _ _ ?_ ?_ t h hr
    · intro e t h hh
      cases e with
      | normal => exact hKQ _ _ _ hh
      | exit id => exact hKQ _ _ _ hh
      | goto l => cases hh
      | ret => exact hKQ _ _ _ hh
      | panic v => exact hKQ _ _ _ hh
    · intro hp v t h f hh
      exact hpf hp v t h f hh
  | .scopeJ ks l b r, K, Q, hKQ, hpf, t, h, hr => by
    simp only [awp]
    refine ⟨fun n vs h' => ∃ (t' : A) (ht : HT), ht.H = h' ∧ t'.F = frameOf ks vs ∧ jumpK (execK r call L pf) ks l K n t' ht = true, execK_sound b _ _ ?_ ?_ t h hr, ?_⟩
    · intro e t h hh
      cases e with
      | normal => exact hKQ _ _ _ hh
      | exit id => exact hKQ _ _ _ hh
      | goto l' =>
        simp only [Bool.and_eq_true] at hh
        obtain ⟨t1, h5, h6⟩ := keep_sound hh.2
        exact ⟨Nat.eq_of_beq_eq_true hh.1, L, t1, h, rfl, h6, h5⟩
      | ret => exact hKQ _ _ _ hh
      | panic v => exact hKQ _ _ _ hh
    · intro hp v t h f hh
      exact hpf hp v t h f hh
    · rintro n vs h' ⟨t', ht, rfl, h3, h4⟩
      cases n with
      | zero => simp [jumpK] at h4
      | succ n =>
        rw [← h3]
        refine execK_sound r _ _ ?_ ?_ t' ht h4
        · intro e t h hh
          cases e with
          | normal => exact hKQ _ _ _ hh
          | exit id => exact hKQ _ _ _ hh
          | goto l' =>
            simp only [Bool.and_eq_true] at hh
            obtain ⟨t1, h5, h6⟩ := keep_sound hh.2
            exact ⟨Nat.eq_of_beq_eq_true hh.1, n, by omega, t1, h, rfl, h6, h5⟩
          | ret => exact hKQ _ _ _ hh
          | panic v => exact hKQ _ _ _ hh
        · intro hp v t h f hh
          exact hpf hp v t h f hh
  | .goto l, K, Q, hKQ, hpf, t, h, hr => hKQ _ _ _ hr
  | .refuse, K, Q, hKQ, hpf, t, h, hr => by simp [execK] at hr
  | .label _, K, Q, hKQ, hpf, t, h, hr => hKQ _ _ _ hr

theorem retsK_sound {C : CF} {t : A} {h : HT} {k : Out → HT → Bool} (hr : retsK C t h k = true) : ∃ l, retsOf t.F h.H C.res = some l ∧ k (.ret (retV l)) h = true := by
  unfold retsK at hr
  split at hr
  · rename_i l hl
    exact ⟨l, hl, rK_sound (k := fun v => k (.ret v) h) hr⟩
  · cases hr

theorem argK_sound : ∀ (vs : List V) (i : Nat) (t : A) (k : A → Bool), argK vs i t k = true → ∃ t', k t' = true ∧ ∀ n, t'.F n = if n < i then t.F n else (if n < i + vs.length then vs.getD (n - i) .bot else t.F n)
  | [], i, t, k, h => ⟨t, h, fun n => by simp only [List.length_nil, Nat.add_zero]; split <;> rfl⟩
  | v :: vs, i, t, k, h => by
    simp only [argK] at h
    obtain ⟨t', h1, h2⟩ := argK_sound vs (i + 1) _ k (natK_sound (k := fun j => argK vs j (.cons i v t) k) h)
    refine ⟨t', h1, fun n => ?_⟩
    rw [h2, F_cons]
    simp only [F.put, List.length_cons]
    rcases Nat.lt_trichotomy n i with h3 | h3 | h3
    · have : ¬ n = i := by omega
      have h4 : n < i + 1 := by omega
      simp [this, h3, h4]
    · subst h3; simp
    · have e1 : ¬ n < i + 1 := by omega
      have e2 : ¬ n < i := by omega
      have e3 : ¬ n = i := by omega
      have e4 : n - i = (n - (i + 1)) + 1 := by omega
      have e5 : (n < i + 1 + vs.length) = (n < i + (vs.length + 1)) := by congr 1; omega
      simp only [e1, e2, e3, if_false, e5]
      split
      · rw [e4]; rfl
      · rfl

theorem args_sound {vs : List V} {k : A → Bool} (h : argK vs 0 .nil k = true) : ∃ t, k t = true ∧ t.F = argF vs := by
  obtain ⟨t, h1, h2⟩ := argK_sound hcall vs 0 .nil k h
  refine ⟨t, h1, funext fun n => ?_⟩
  rw [h2]
  simp only [Nat.not_lt_zero, if_false, Nat.zero_add, Nat.sub_zero, argF]
  split
  · rfl
  · rename_i hn
    simp [A.F, List.getD, List.getElem?_eq_none (show vs.length ≤ n by omega)]

theorem recK_sound {f : Nat} {C : CF} (hc : chkF P f C = true) (hres : C.res = []) {vs : List V} {h : HT} {pv : Option V} {k : HT → Bool} (hr : recK call L C vs h (pv.getD .nilifc) k = true) :
    TrD P f vs h.H pv fun h' => ∃ ht : HT, ht.H = h' ∧ k ht = true := by
  unfold recK at hr
  split at hr
  · rename_i ci ops b hb
    split at hr
    · rename_i hop hgd
      simp only [Bool.and_eq_true] at hr
      obtain ⟨t, h1, h2⟩ := args_sound hcall hr.2
      obtain ⟨t', h3, h4⟩ := putK_sound h1
      refine TrD.of_awp hc hres (Nat.le_of_ble_eq_true hr.1) ?_
      unfold awpR
      rw [hb]
      simp only [hop, hgd]
      rw [← h2, ← h4]
      refine opsK_sound hcall ?_ ?_ _ _ _ h3
      · intro t h hh
        refine execK_sound hcall (L := L) (pf := true) b _ _ ?_ ?_ t h hh
        · intro e t h hh
          cases e <;> first | (cases hh; done) | exact ⟨h, rfl, hh⟩
        · intro _ v t h f hh
          cases hh
      · intro v t h hh
        cases hh
    · cases hr
  · cases hr

/-- What a table must be. -/
def FnOK (P : Program) [LibC P] (f : Nat) : FnK → Prop
  | .code C => chkF P f C = true
  | .dfr C => chkF P f C = true
  | .rcvr C => chkF P f C = true ∧ C.res = []
  | .prim p => ∀ vs h v d, p vs h = some (v, d) → Tr P f vs h.H fun o h' => o = .ret v ∧ h' = d.app h.H
  | .memo vs o l x => (∀ h, Tr P f vs h fun o' h' => o' = o.ren (· + h.next) ∧ h' = h.join (litH l)) ∧ FnOK P f x
def TabOK (P : Program) [LibC P] (tab : Tab) : Prop := ∀ f x, tab.get f = some x → FnOK P f x

theorem dfrK_sound {tab : Tab} (ht : TabOK P tab) {C : CF} {k : Out → HT → Bool} : ∀ (cc : CC) (t : A) (h : HT), dfrK tab call L C k cc t h = true → awpD P C (fun o h' => ∃ ht : HT, ht.H = h' ∧ k o ht = true) cc t.F h.H
  | .seq a b, t, h, hr => by
    simp only [dfrK] at hr
    simp only [awpD]
    cases hdf : isDfr a with
    | none =>
      simp only [hdf] at hr ⊢
      refine execK_sound hcall (L := L) (pf := false) a _ _ ?_ ?_ t h hr
      · intro e t h hh
        cases e with
        | normal => exact dfrK_sound ht b t h hh
        | ret =>
          obtain ⟨l, h1, h2⟩ := retsK_sound hcall hh
          exact ⟨l, h1, h, rfl, h2⟩
        | panic v => exact ⟨h, rfl, hh⟩
        | exit id => cases hh
        | goto l => cases hh
      · intro hp; cases hp
    | some p =>
      obtain ⟨s, f, cap⟩ := p
      simp only [hdf] at hr ⊢
      have hr2 := exsK_sound (k := fun vs => (fun t : A =>
        execK b call L false (fun e t h => match tab.get f with
          | some (.rcvr C') => (match e with
            | .normal => recK call L C' vs h .nilifc fun h => retsK C t h k
            | .ret => recK call L C' vs h .nilifc fun h => retsK C t h k
            | .panic v => recK call L C' vs h v fun h => retsK C t h k
            | _ => false)
          | _ => false) t h) (.cons s (.fn f [] vs) t)) hr
      simp only at hr2
      rw [← F_cons]
      refine execK_sound hcall (L := L) (pf := false) b _ _ ?_ ?_ _ h hr2
      · intro e t' h hh
        split at hh
        · rename_i C' hC'
          obtain ⟨q1, q3⟩ := ht f _ hC'
          have fin : ∀ h', (∃ ht : HT, ht.H = h' ∧ retsK C t' ht k = true) → ∃ l, retsOf t'.F h' C.res = some l ∧ ∃ ht : HT, ht.H = h' ∧ k (.ret (retV l)) ht = true := by
            rintro h' ⟨ht, rfl, hh⟩
            obtain ⟨l, h1, h2⟩ := retsK_sound hcall hh
            exact ⟨l, h1, ht, rfl, h2⟩
          cases e with
          | normal => exact (recK_sound hcall q1 q3 (pv := none) hh).mono fin
          | ret => exact (recK_sound hcall q1 q3 (pv := none) hh).mono fin
          | panic v => exact (recK_sound hcall q1 q3 (pv := some v) hh).mono fin
          | exit id => cases hh
          | goto l => cases hh
        · cases hh
      · intro hp; cases hp
  | .skip, t, h, hr => by simp [dfrK] at hr
  | .region _ _, t, h, hr => by simp [dfrK] at hr
  | .regionP _ _ _, t, h, hr => by simp [dfrK] at hr
  | .seqK _ _ _, t, h, hr => by simp [dfrK] at hr
  | .cond _ _ _, t, h, hr => by simp [dfrK] at hr
  | .block _ _, t, h, hr => by simp [dfrK] at hr
  | .loop _ _, t, h, hr => by simp [dfrK] at hr
  | .exit _, t, h, hr => by simp [dfrK] at hr
  | .ret, t, h, hr => by simp [dfrK] at hr
  | .scope _, t, h, hr => by simp [dfrK] at hr
  | .scopeJ _ _ _ _, t, h, hr => by simp [dfrK] at hr
  | .goto _, t, h, hr => by simp [dfrK] at hr
  | .refuse, t, h, hr => by simp [dfrK] at hr
  | .label _, t, h, hr => by simp [dfrK] at hr
omit hcall in
theorem litsK_sound {N : Nat} : ∀ (l : List O) (i : Nat) (tr : T O) (k : T O → Nat → Bool), litsK N l i tr k = true → ∃ tr', k tr' (i + l.length) = true ∧ ∀ b, tr'.get b = if b < i then tr.get b else match l[b - i]? with
      | some o => some (o.ren (· + N))
      | none => tr.get b
  | [], i, tr, k, h => ⟨tr, h, fun b => by simp⟩
  | o :: l, i, tr, k, h => by
    simp only [litsK] at h
    obtain ⟨tr1, h1, h2⟩ := T.setK_sound 30 tr i (some (o.ren (· + N))) _ (ofK_sound (k := fun o => T.setK 30 tr i (some o) fun tr => natK (i + 1) fun i => litsK N l i tr k) h)
    obtain ⟨tr2, h3, h4⟩ := litsK_sound l (i + 1) tr1 k (natK_sound (k := fun i => litsK N l i tr1 k) h1)
    refine ⟨tr2, by rw [List.length_cons, show i + (l.length + 1) = i + 1 + l.length by omega]; exact h3, fun b => ?_⟩
    rw [h4, h2]
    by_cases e : b = i
    · subst e; simp
    · by_cases e2 : b < i
      · simp [e2, show b < i + 1 by omega, e]
      · have e3 : ¬ b < i + 1 := by omega
        have e4 : b - i = (b - (i + 1)) + 1 := by omega
        simp only [e2, e3, if_false, e, e4, List.getElem?_cons_succ]

omit hcall in
theorem fnK_ok {tab : Tab} (ht : TabOK P tab) (L : Nat) {call : CallK} (ih : OkCall P call) (f : Nat) : ∀ (x : FnK), FnOK P f x → ∀ (vs : List V) (h : HT) (k : Out → HT → Bool), fnK tab call L x vs h k = true → Tr P f vs h.H fun o h' => ∃ ht : HT, ht.H = h' ∧ k o ht = true
  | .code C, q1, vs, h, k, hr => by
    simp only [fnK, Bool.and_eq_true] at hr
    obtain ⟨t, h1, h2⟩ := args_sound ih hr.2
    refine Tr.of_awp q1 (Nat.le_of_ble_eq_true hr.1) ?_
    rw [← h2]
    refine execK_sound ih (L := L) (pf := true) C.body _ _ ?_ ?_ t h h1
    · intro e t h hh
      cases e with
      | normal =>
        obtain ⟨l, h1, h2⟩ := retsK_sound ih hh
        exact ⟨l, h1, h, rfl, h2⟩
      | ret =>
        obtain ⟨l, h1, h2⟩ := retsK_sound ih hh
        exact ⟨l, h1, h, rfl, h2⟩
      | panic v => exact ⟨h, rfl, hh⟩
      | exit id => cases hh
      | goto l => cases hh
    · intro _ v t h f hh
      exact ⟨h, rfl, hh⟩
  | .dfr C, q1, vs, h, k, hr => by
    simp only [fnK, Bool.and_eq_true] at hr
    obtain ⟨t, h1, h2⟩ := args_sound ih hr.2
    refine Tr.of_awpD q1 (Nat.le_of_ble_eq_true hr.1) ?_
    rw [← h2]
    exact dfrK_sound ih ht C.body t h h1
  | .rcvr C, q1, vs, h, k, hr => by simp [fnK] at hr
  | .prim p, q1, vs, h, k, hr => by
    simp only [fnK] at hr
    split at hr
    · rename_i v dl hv
      obtain ⟨h', h1, h2⟩ := appK_sound (sK_sound (k := fun v => dl.appK h fun h => k (.ret v) h) hr)
      refine (q1 vs h v dl hv).mono ?_
      rintro o h'' ⟨rfl, rfl⟩
      exact ⟨h', h2, h1⟩
    · cases hr
  | .memo vs0 o0 l x, q1, vs, h, k, hr => by
    simp only [fnK] at hr
    split at hr
    · rename_i he
      have he := eqVVs_sound he
      subst he
      refine (q1.1 h.H).mono ?_
      rintro o h' ⟨rfl, rfl⟩
      obtain ⟨tr', h1, h2⟩ := litsK_sound l h.next h.tr _ hr
      refine ⟨⟨h.ro, h.next + l.length, tr', h.ty⟩, ?_, ?_⟩
      · simp only [HT.H, H.join, litH]
        congr 1
        · funext b
          rw [h2]
          rfl
        · funext b; exact (ite_self _).symm
      · cases o0 with
        | ret v => exact rK_sound (k := fun v => k (.ret v) ⟨h.ro, h.next + l.length, tr', h.ty⟩) h1
        | panic v => exact rK_sound (k := fun v => k (.panic v) ⟨h.ro, h.next + l.length, tr', h.ty⟩) h1
    · exact fnK_ok ht L ih f x q1.2 vs h k hr

omit hcall in
theorem callK_ok {tab : Tab} (ht : TabOK P tab) (L : Nat) : ∀ d, OkCall P (callK tab L d)
  | 0, f, vs, h, k, hr => by simp [callK] at hr
  | d + 1, f, vs, h, k, hr => by
    simp only [callK] at hr
    split at hr
    · rename_i x hx
      exact fnK_ok ht L (callK_ok ht L d) f x (ht f x hx) vs h k hr
    · cases hr
end
end Go.Ab

/-! A closed call, run by the machine to its end. -/
set_option linter.unusedVariables false
set_option linter.unusedSimpArgs false
set_option linter.unusedSectionVars false
namespace Go.Ab

mutual
/-- All names in a value are below n. -/
def V.bd (n : Nat) : V → Bool
  | .ptr (some (b, _)) => Nat.blt b n
  | .sl (some (b, _)) _ _ => Nat.blt b n
  | .map (some r) => Nat.blt r n
  | .fn _ l m => V.bds n l && V.bds n m
  | .ifc _ v => V.bd n v
  | .agg l => V.bds n l
  | .tup l => V.bds n l
  | _ => true
def V.bds (n : Nat) : List V → Bool
  | [] => true
  | v :: l => V.bd n v && V.bds n l
end
mutual
theorem bd_has {n : Nat} : ∀ {v : V}, v.bd n = true → ∀ b, v.has b = true → b < n
  | .ptr (some (b, _)), h, c, hc => by simp only [V.bd, V.has, beq_iff_eq] at h hc; subst hc; simpa using h
  | .sl (some (b, _)) _ _, h, c, hc => by simp only [V.bd, V.has, beq_iff_eq] at h hc; subst hc; simpa using h
  | .map (some r), h, c, hc => by simp only [V.bd, V.has, beq_iff_eq] at h hc; subst hc; simpa using h
  | .fn _ l m, h, c, hc => by
    simp only [V.bd, Bool.and_eq_true] at h
    simp only [V.has, Bool.or_eq_true] at hc
    rcases hc with hc | hc
    · exact bds_has h.1 c hc
    · exact bds_has h.2 c hc
  | .ifc _ v, h, c, hc => by simp only [V.bd, V.has] at h hc; exact bd_has h c hc
  | .agg l, h, c, hc => by simp only [V.bd, V.has] at h hc; exact bds_has h c hc
  | .tup l, h, c, hc => by simp only [V.bd, V.has] at h hc; exact bds_has h c hc
  | .bot, _, _, hc => by simp [V.has] at hc
  | .int _ _, _, _, hc => by simp [V.has] at hc
  | .bool _, _, _, hc => by simp [V.has] at hc
  | .str _, _, _, hc => by simp [V.has] at hc
  | .ptr none, _, _, hc => by simp [V.has] at hc
  | .sl none _ _, _, _, hc => by simp [V.has] at hc
  | .sl0, _, _, hc => by simp [V.has] at hc
  | .sle, _, _, hc => by simp [V.has] at hc
  | .map none, _, _, hc => by simp [V.has] at hc
  | .nilfn, _, _, hc => by simp [V.has] at hc
  | .nilifc, _, _, hc => by simp [V.has] at hc
theorem bds_has {n : Nat} : ∀ {l : List V}, V.bds n l = true → ∀ b, V.hass l b = true → b < n
  | [], _, _, hc => by simp [V.hass] at hc
  | v :: l, h, c, hc => by
    simp only [V.bds, Bool.and_eq_true] at h
    simp only [V.hass, Bool.or_eq_true] at hc
    rcases hc with hc | hc
    · exact bd_has h.1 c hc
    · exact bds_has h.2 c hc
end

def Out.bd (n : Nat) : Out → Bool
  | .ret v => v.bd n
  | .panic v => v.bd n
def O.bd (n : Nat) : O → Bool
  | .cells l => V.bds n l
  | .map l => l.all fun e => e.1.bd n && e.2.bd n
def eqOut : Out → Out → Bool
  | .ret v, .ret w => eqVV v w
  | .panic v, .panic w => eqVV v w
  | _, _ => false
def eqPs : List (V × V) → List (V × V) → Bool
  | [], [] => true
  | (a, b) :: l, (c, d) :: m => eqVV a c && eqVV b d && eqPs l m
  | _, _ => false
def eqO : O → O → Bool
  | .cells l, .cells m => eqVVs l m
  | .map l, .map m => eqPs l m
  | _, _ => false
theorem eqPs_sound : ∀ {l m : List (V × V)}, eqPs l m = true → l = m
  | [], [], _ => rfl
  | (a, b) :: l, (c, d) :: m, h => by
    simp only [eqPs, Bool.and_eq_true] at h
    rw [eqVV_sound h.1.1, eqVV_sound h.1.2, eqPs_sound h.2]
  | [], _ :: _, h => by simp [eqPs] at h
  | _ :: _, [], h => by simp [eqPs] at h
theorem eqO_sound {a b : O} (h : eqO a b = true) : a = b := by
  cases a <;> cases b <;> simp only [eqO, Bool.false_eq_true] at h
  · rw [eqVVs_sound h]
  · rw [eqPs_sound h]
theorem eqOut_sound {a b : Out} (h : eqOut a b = true) : a = b := by
  cases a <;> cases b <;> simp only [eqOut, Bool.false_eq_true] at h <;> rw [eqVV_sound h]

def nodupB : List Nat → Bool
  | [] => true
  | a :: l => l.all (fun b => !Nat.beq a b) && nodupB l
theorem nodupB_sound : ∀ {l : List Nat}, nodupB l = true → l.Nodup
  | [], _ => by simp
  | a :: l, h => by
    simp only [nodupB, Bool.and_eq_true, List.all_eq_true, Bool.not_eq_true'] at h
    rw [List.nodup_cons]
    refine ⟨fun hm => ?_, nodupB_sound h.2⟩
    have := h.1 a hm
    simp at this

def litsB (ρ : List Nat) (tr : T O) : List Nat → List O → Bool
  | r :: rs, o :: os => (match tr.get r with
    | some o' => eqO o' (o.ren fun b => ρ.getD b 0)
    | none => false) && litsB ρ tr rs os
  | [], [] => true
  | _, _ => false

theorem litsB_sound {ρ : List Nat} {tr : T O} : ∀ {rs : List Nat} {os : List O}, litsB ρ tr rs os = true → os.length = rs.length ∧ ∀ i o, os[i]? = some o → tr.get (rs.getD i 0) = some (o.ren fun b => ρ.getD b 0)
  | [], [], _ => ⟨rfl, by simp⟩
  | r :: rs, o :: os, h => by
    simp only [litsB, Bool.and_eq_true] at h
    obtain ⟨h1, h2⟩ := litsB_sound h.2
    refine ⟨by simp [h1], fun i o' ho => ?_⟩
    cases i with
    | zero =>
      simp at ho; subst ho
      have h3 := h.1
      split at h3
      · rename_i o2 h4
        rw [← eqO_sound h3]
        simpa using h4
      · cases h3
    | succ i =>
      have := h2 i o' (by simpa using ho)
      simpa using this
  | [], _ :: _, h => by simp [litsB] at h
  | _ :: _, [], h => by simp [litsB] at h

/-- The machine's end is that. -/
def litB (ρ : List Nat) (o0 : Out) (l : List O) (o : Out) (h : HT) : Bool :=
  Nat.beq h.ro 0 && eqOut o (o0.ren fun b => ρ.getD b 0) && o0.bd l.length && nodupB ρ && litsB ρ h.tr ρ l && l.all (O.bd l.length)

theorem litB_sound {ρ : List Nat} {o0 : Out} {l : List O} {o : Out} {h : HT} (hh : litB ρ o0 l o h = true) : litOK ρ o0 l o h.H := by
  simp only [litB, Bool.and_eq_true, List.all_eq_true] at hh
  obtain ⟨⟨⟨⟨⟨h1, h2⟩, h3⟩, h4⟩, h5⟩, h6⟩ := hh
  obtain ⟨q1, q2⟩ := litsB_sound h5
  refine ⟨Nat.eq_of_beq_eq_true h1, eqOut_sound h2, ?_, q1, nodupB_sound h4, q2, ?_⟩
  · intro b hb
    cases o0 <;> exact bd_has h3 b hb
  · intro o ho b hb
    have := h6 o ho
    cases o with
    | cells l => exact bds_has this b hb
    | map m =>
      simp only [O.bd, List.all_eq_true, Bool.and_eq_true] at this
      simp only [O.has, List.any_eq_true, Bool.or_eq_true] at hb
      obtain ⟨e, he, hb⟩ := hb
      rcases hb with hb | hb
      · exact bd_has (this e he).1 b hb
      · exact bd_has (this e he).2 b hb

def emptyHT : HT := ⟨0, 0, .nil, .nil⟩
theorem emptyHT_H : emptyHT.H = emptyH := rfl

section
variable {P : Program} [LibC P]

/-- **A closed call that the machine has run: it does that in any memory.** -/
theorem closed_run {tab : Tab} (ht : TabOK P tab) {L d f : Nat} {vs : List V} (hcl : V.bds 0 vs = true) {ρ : List Nat} {o0 : Out} {l : List O} (hr : true = callK tab L d f vs emptyHT (litB ρ o0 l)) (h : H) : Tr P f vs h fun o h' => o = o0.ren (· + h.next) ∧ h' = h.join (litH l) := by
  refine Tr.closed (ρ := ρ) (o0 := o0) (l := l) (fun b => ?_) ?_ h
  · cases hb : V.hass vs b with
    | false => rfl
    | true => exact absurd (bds_has hcl b hb) (Nat.not_lt_zero _)
  · have := callK_ok ht L d f vs emptyHT _ hr.symm
    rw [emptyHT_H] at this
    refine this.mono ?_
    rintro o h' ⟨ht, rfl, hh⟩
    exact litB_sound hh
end
end Go.Ab

/-! A table is right, entry by entry. -/
namespace Go.Ab

/-- Each entry is as it should be; φ: an entry's place. -/
def T.All {α : Type} (p : Nat → α → Prop) : T α → (Nat → Nat) → Prop
  | .nil, _ => True
  | .node l v r, φ => (match v with
    | some x => p (φ 0) x
    | none => True) ∧ l.All p (fun n => φ (2 * n + 1)) ∧ r.All p (fun n => φ (2 * n + 2))

theorem T.All.get {α : Type} {p : Nat → α → Prop} : ∀ {t : T α} {φ : Nat → Nat}, t.All p φ → ∀ n x, t.get n = some x → p (φ n) x
  | .nil, φ, _, n, x, h => by cases h
  | .node l v r, φ, ha, n, x, h => by
    obtain ⟨h1, h2, h3⟩ := ha
    cases n with
    | zero =>
      have : v = some x := h
      subst this
      exact h1
    | succ n =>
      have hm : Nat.mod n 2 = n % 2 := rfl
      have hd : Nat.div n 2 = n / 2 := rfl
      simp only [T.get] at h
      rw [hm, hd] at h
      rcases Nat.mod_two_eq_zero_or_one n with e | e
      · rw [e] at h
        have := T.All.get h2 (n / 2) x h

        rwa [show 2 * (n / 2) + 1 = n + 1 by omega] at this
      · rw [e] at h
        have := T.All.get h3 (n / 2) x h

        rwa [show 2 * (n / 2) + 2 = n + 1 by omega] at this

theorem TabOK.of_all {P : Program} [LibC P] {tab : Tab} (h : tab.All (FnOK P) (fun n => n)) : TabOK P tab := fun f x hx => T.All.get h f x hx
end Go.Ab
