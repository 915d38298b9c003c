import Derived.Test.YtflfkbnklncilaaGreatDoorCards
import Derived.Test.YtflfkbnklncilaaGreatDoorTie
import Derived.WalkKit
import Derived.ProofKit
import Derived.OpenShut
import Derived.Deep.DeepHandedRow
import Derived.Lib.LaidTab
import Derived.Shelf.Vars
import Derived.Carry
import Derived.Test.YtflfkbnklncilaaGreatDoorL1
/-! From the abstract layer to the given rows. -/
set_option linter.unusedVariables false
set_option maxRecDepth 100000
namespace Go.Proofs.YtflfkbnklncilaaGreatDoor.Law
open Go.ChangeShapes Go.WideShapes Go.ChangeAt Go.RowKit Go.Ab

theorem own : ownKnob Tryz.prog.godebug = none := by kernel_rfl
theorem gPow : Tryz.prog.globalNamed "internal/strconv.uint64pow10" = some 2 := by kernel_rfl
theorem gB64 : Tryz.prog.globalNamed "math/bits.deBruijn64tab" = some 0 := by kernel_rfl
theorem gPowType : (Tryz.prog.globals[2]?).map (·.type) = some 264 := by kernel_rfl
theorem gB64Type : (Tryz.prog.globals[0]?).map (·.type) = some 253 := by kernel_rfl

/-- The variables that every row of this seat lists. -/
abbrev laid : List (String × DataW Unit) := [("math/bits.deBruijn32tab", Rows.laid_math_bits_deBruijn32tab), ("math/bits.deBruijn64tab", Rows.laid_math_bits_deBruijn64tab), ("internal/strconv.uint64pow10", Rows.laid_internal_strconv_uint64pow10)]

theorem tab_of {P : Program} {W : World} {name : String} {k : IntKind} {zs : List Int} {rest : List (String × DataW Unit)} {ps : List MemPlace} {g : Nat} {t e : TypeId} {n : Nat}
    (hg : P.globalNamed name = some g) (hty : (P.globals[g]?).map (·.type) = some t) (ht : P.underlying t = some (.array n e)) (he : P.underlying e = some (.int k)) (hce : P.cellsOf e = 1) (hct : P.cellsOf t = n)
    (h : DataW.LaidVars P W ((name, Lib.tabData k zs) :: rest) ps) : Lib.TabIs P W name k zs := by
  obtain ⟨g', t', cs, fuel, p, q, hg', ht', hvar, hd, _, _⟩ := h
  obtain rfl := Option.some.inj (hg.symm.trans hg')
  obtain rfl := Option.some.inj (hty.symm.trans ht')
  unfold Lib.TabIs
  rw [hvar, ← Lib.cells_of_tab ht he hce hct hd]

theorem tail_of {P : Program} {W : World} {x : String × DataW Unit} {rest : List (String × DataW Unit)} {ps : List MemPlace} (h : DataW.LaidVars P W (x :: rest) ps) : ∃ q, DataW.LaidVars P W rest q := by
  obtain ⟨n, d⟩ := x
  obtain ⟨g', t', cs, fuel, p, q, hg', ht', hvar, hd, hr, _⟩ := h
  exact ⟨q, hr⟩

theorem tabs {W : World} (h : laidMetH Tryz.prog laid W) : Lib.TabIs Tryz.prog W "internal/strconv.uint64pow10" .u64 Lib.pow10Tab ∧ Lib.TabIs Tryz.prog W "math/bits.deBruijn64tab" .u8 (Lib.deBruijn64tab.map Int.ofNat) := by
  obtain ⟨ps, h1, _⟩ := (show laidMet Tryz.prog laid W from h)
  obtain ⟨q1, h2⟩ := tail_of h1
  obtain ⟨q2, h3⟩ := tail_of h2
  exact ⟨tab_of (rest := []) gPow gPowType Tryz.underlying264 Tryz.underlying146 (by kernel_rfl) (by kernel_rfl) h3, tab_of (zs := Lib.deBruijn64tab.map Int.ofNat) gB64 gB64Type Tryz.underlying253 Tryz.underlying5 (by kernel_rfl) (by kernel_rfl) h2⟩

theorem maxLen {W : World} (hsh : W.ShapedOpen Tryz.prog) : ∃ m, W.cell? ⟨1, 0, none⟩ = some (.int .i64 m) :=
  cell_of_shapedOpen_int (g := 1) (t := 3) (zero := #[.int .i64 0]) hsh (of_decide_eq_true (by kernel_rfl)) (by kernel_rfl) rfl (by kernel_rfl) (by kernel_rfl) Tryz.underlying3

theorem libMet {W : World} (h : laidMetH Tryz.prog laid W) (hsh : W.ShapedOpen Tryz.prog) : ∀ w', (∀ i, i < W.heap.size → w'.heap[i]? = W.heap[i]?) → LibC.lib Tryz.prog w' := by
  intro w' hw
  obtain ⟨h1, h2⟩ := tabs h
  obtain ⟨m, hm⟩ := maxLen hsh
  have size : ∀ {a : Addr} {v : Value}, W.cell? a = some v → a.block < W.heap.size := by
    intro a v hc
    simp only [World.cell?] at hc
    rcases Nat.lt_or_ge a.block W.heap.size with h3 | h3
    · exact h3
    · rw [Array.getElem?_eq_none h3] at hc; simp at hc
  have keep : ∀ {a : Addr} {v : Value}, W.cell? a = some v → w'.cell? a = some v := by
    intro a v hc
    rw [World.cell?_of_block (w := W) (hw _ (size hc))]; exact hc
  refine ⟨⟨m, keep hm⟩, ?_, fun j hj => keep ?_⟩
  · unfold Lib.TabIs at h1 ⊢
    have hs := size (Lib.TabIs.cell h1 gPow 0 (by decide))
    simp only [World.var?, gPow, Option.bind_some] at h1 ⊢
    rw [hw 2 hs]; exact h1
  · have := Lib.TabIs.cell h2 gB64 j (by simpa using hj)
    rw [this]
    simp [List.getD, hj]

/-- A call whose arguments' blocks stay: from the abstract layer. -/
theorem calls_of {W : World} (h : laidMetH Tryz.prog laid W) (hsh : W.ShapedOpen Tryz.prog) {k : Nat} {args : List V} {xs : Array Value} {a : H} {g : G} {Q : Out → H → Prop} (t : Tr Tryz.prog k args a Q)
    (hR : ∀ c : Base, c.W = W → (∀ i, c.S i ↔ i < W.heap.size) → (∀ i, ¬ c.Z i) → Rel c g a W) (hx : VsRel g a.next args xs.toList) :
    Calls Tryz.prog k xs W fun e W' => ∃ o h' g', Q o h' ∧ ERel g' h'.next o e ∧ Below W.heap.size W W' := by
  let c : Base := ⟨W, fun i => i < W.heap.size, fun _ => False, fun i hi => hi, fun i hi => hi.elim⟩
  refine (t.2 c (libMet h hsh) g W xs (hR c rfl (fun i => Iff.rfl) (fun i h => h)) hx).mono ?_
  rintro e w' ⟨o, h', g', q, R', _, _, er⟩
  exact ⟨o, h', g', q, er, ⟨R'.bel.os, R'.bel.tape, R'.bel.output, R'.bel.size, fun i hi => R'.bel.block i hi⟩⟩

section
variable {H : Type} {enc : TypeId × Value → H} {P : Program}
/-- The row's claim behind a call that has left all old blocks as they were. -/
theorem post_of_below {f : Func} {s : ChangeSpec} {apart fresh handsOn again : Bool} {W W' : World} {args : Array Value} {v : Value} {ds gs : List (DataW H)} {before pa pv : List MemPlace}
    (hW : DataW.Whole enc P f.params.toList s.vars apart W args.toList ds gs before)
    (hres : ∀ (b : Nat) (sp : Nat → Bool) (hd : Bool), DataW.TrodAll enc P W' b sp hd f.resultTypes.toList (v.resultList f.resultTypes.size) (s.fn H (ds ++ gs)).results [])
    (hargs : ∀ sp : Nat → Bool, (∀ p ∈ before, sp p.block = true) → DataW.TrodAll enc P W' 0 sp true f.params.toList args.toList (s.fn H (ds ++ gs)).args pa)
    (hvars : ∀ sp : Nat → Bool, (∀ p ∈ before, sp p.block = true) → DataW.TrodVars enc P W' sp s.vars (s.fn H (ds ++ gs)).vars pv)
    (hps : before = pa ++ pv) (hb : Below W.heap.size W W')
    (hok : ∀ (j : Nat) (t : TypeId) (r : Value), f.resultTypes[j]? = some t → (v.resultList f.resultTypes.size)[j]? = some r → Value.okWide P W' .any 0 t r) :
    s.post enc P f apart fresh handsOn again W args v W' := by
  have hold : ∀ p ∈ before, (fun b => decide (b < W.heap.size)) p.block = true := fun p hp => by simpa using hW.lt p hp
  have hlt : ∀ p ∈ before, p.block < W.heap.size := fun p hp => by simpa using hW.lt p hp
  refine ⟨ds, gs, before, [], pa, pv, hW, hres _ _ _, hargs _ hold, hvars _ hold, World.keptBut_mono (fun p hp => ⟨hp, ?_⟩) (hb.frame _), fun _ => ?_⟩
  · rw [hps, List.mem_append] at hp
    exact Or.inr hp
  · obtain ⟨_, _, _, _, _, hz, hn⟩ := hW
    refine ⟨hok, _, _, ([] ++ pa) ++ pv, ⟨[] ++ pa, pv, trodAll_append (hargs _ (fun _ _ => rfl)) (hres _ _ _), hvars _ (fun _ _ => rfl), rfl, ?_, ?_⟩, ?_⟩
    · intro b off hp
      have hp' : MemPlace.cell b off ∈ before := by rw [hps]; simpa using hp
      rw [hb.frozen (hlt _ hp')]
      exact hz b off hp'
    · intro ha
      have := hn ha
      rw [hps] at this
      simpa using this
    · intro p hp _
      rw [hps]
      simpa using hp
end

def rowOf (cs : List Value) : Obj → Obj
  | .cells _ t frozen => .cells cs.toArray t frozen
  | o => o
def tab32 : List Int := [0, 1, 28, 2, 29, 14, 24, 3, 30, 22, 20, 15, 25, 17, 4, 8, 31, 27, 13, 23, 21, 19, 16, 7, 26, 12, 18, 6, 11, 5, 10, 9]

/-- A world for the witness: the settled one, the listed variables holding what their initialisers lay. -/
noncomputable def laidWorld (os : Os) : World :=
  { World.holding Tryz.prog os ⟨#[], #[], []⟩ with heap := (((World.holding Tryz.prog os ⟨#[], #[], []⟩).heap.modify 0 (rowOf (Lib.deBruijn64tab.map fun z => Value.int .u8 (Int.ofNat z)))).modify 2 (rowOf (Lib.pow10Tab.map fun z => Value.int .u64 z))).modify 3 (rowOf (tab32.map fun z => Value.int .u8 z)) }
end Go.Proofs.YtflfkbnklncilaaGreatDoor.Law
