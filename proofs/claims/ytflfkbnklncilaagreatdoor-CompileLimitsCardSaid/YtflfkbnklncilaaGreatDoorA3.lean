import Derived.Test.YtflfkbnklncilaaGreatDoorA2
import Derived.ScopeJumps
import Derived.Recover
/-! Operations in a row; what a call tells. -/
set_option linter.unusedVariables false
set_option linter.unusedSectionVars false
set_option linter.unusedSimpArgs false
namespace Go.Ab
open Go.RowKit

inductive Out where
  | ret (v : V)
  | panic (v : V)

def ERel (g : G) (N : Nat) : Out → Ending → Prop
  | .ret v, .returned x => VRel g N v x
  | .panic v, .panicked ch => ∃ x, ch = [{ v := x, recovered := false }] ∧ VRel g N v x
  | _, _ => False

/-- What is known of the memory in which all began. -/
class LibC (P : Program) where
  lib : World → Prop

/-- A base of which that is known. -/
def LibB (P : Program) [LibC P] (c : Base) : Prop := ∀ w', (∀ i, c.S i → w'.heap[i]? = c.W.heap[i]?) → LibC.lib P w'

/-- A call, over abstract states. -/
def Tr (P : Program) [LibC P] (k : Nat) (args : List V) (h : H) (Q : Out → H → Prop) : Prop :=
  callable P k = true ∧ ∀ (c : Base), LibB P c → ∀ (g : G) (w : World) (xs : Array Value), Rel c g h w → VsRel g h.next args xs.toList →
    Calls P k xs w fun e w' => ∃ out h' g', Q out h' ∧ Rel c g' h' w' ∧ Agree h.next g g' ∧ h.next ≤ h'.next ∧ ERel g' h'.next out e

theorem Tr.mono {P : Program} [LibC P] {k : Nat} {args : List V} {h : H} {Q Q' : Out → H → Prop} (t : Tr P k args h Q) (hq : ∀ o h', Q o h' → Q' o h') : Tr P k args h Q' :=
  ⟨t.1, fun c hl g w xs R hx => (t.2 c hl g w xs R hx).mono fun _ _ ⟨o, h', g', q, r⟩ => ⟨o, h', g', hq _ _ q, r⟩⟩

inductive Ex where
  | normal
  | exit (id : Nat)
  | goto (l : Nat)
  | ret
  | panic (v : V)

inductive CC where
  | skip
  | region (draw : Bool) (ops : List CI)
  | regionP (perm late : List Nat) (ops : List CI)
  | seq (a b : CC)
  | seqK (ks : List Nat) (a b : CC)
  | cond (x : X) (a b : CC)
  | block (id : Nat) (b : CC)
  | loop (ks : List Nat) (b : CC)
  | exit (id : Nat)
  | ret
  | scope (b : CC)
  | scopeJ (ks : List Nat) (l : Nat) (b r : CC)
  | goto (l : Nat)
  | refuse
  | label (l : Nat)

def want (ops : List CI) (f : F) (ci : CI) : Option Bool := match ci.guard with
  | none => some true
  | some (j, b) => match (ops[j]?).bind (·.dst) with
    | some t => match f t with
      | .bool x => some (x == b)
      | .tup [] => some false
      | _ => none
    | none => none

def aOp (P : Program) [LibC P] (ci : CI) (f : F) (h : H) (K : F → H → Prop) (Kp : V → F → H → Prop) : Prop := match step f h ci.op with
  | .val v h' => K (f.put ci.dst v) h'
  | .unit h' => K (f.put ci.dst (.tup [])) h'
  | .call k vs => Tr P k vs h fun out h' => match out with
    | .ret v => K (f.put ci.dst v) h'
    | .panic v => Kp v f h'
  | .panic v => Kp v f h
  | .bad => False

def aGo (P : Program) [LibC P] (ops : List CI) (ci : CI) (f : F) (h : H) (K : F → H → Prop) (Kp : V → F → H → Prop) : Prop := match want ops f ci with
  | some true => aOp P ci f h K Kp
  | some false => K (f.put ci.dst (.tup [])) h
  | none => False

def aOps (P : Program) [LibC P] (ops : List CI) (K : F → H → Prop) (Kp : V → F → H → Prop) : List CI → F → H → Prop
  | [], f, h => K f h
  | ci :: rest, f, h => aGo P ops ci f h (aOps P ops K Kp rest) Kp

def readyC (ops : List CI) (listed : Array Bool) : List Nat :=
  (List.range ops.length).filter fun i => !listed.getD i true && ((ops[i]?).map (·.after.all fun j => listed.getD j false)).getD false

def chkCI (P : Program) (nt : Nat) (draw : Bool) (o : Oper) (ci : CI) : Bool :=
  chk P o.op ci.op && o.dst == ci.dst && (match ci.dst with
    | some d => decide (d < nt)
    | none => true) && o.guard == ci.guard && (!draw || (o.after.toList.filter (Region.binds .any)).map (·.on) == ci.after)

def chkCIs (P : Program) (nt : Nat) (draw : Bool) : List Oper → List CI → Bool
  | [], [] => true
  | o :: os, ci :: cs => chkCI P nt draw o ci && chkCIs P nt draw os cs
  | _, _ => false

theorem chkCIs_get {P : Program} {nt : Nat} {draw : Bool} : ∀ {os : List Oper} {cs : List CI}, chkCIs P nt draw os cs = true → os.length = cs.length ∧ ∀ (i : Nat) (o : Oper) (ci : CI), os[i]? = some o → cs[i]? = some ci → chkCI P nt draw o ci = true
  | [], [], _ => ⟨rfl, by simp⟩
  | [], _ :: _, h => by simp [chkCIs] at h
  | _ :: _, [], h => by simp [chkCIs] at h
  | o :: os, ci :: cs, h => by
    simp only [chkCIs, Bool.and_eq_true] at h
    obtain ⟨h1, h2⟩ := chkCIs_get h.2
    refine ⟨by simp [h1], fun i o' ci' ho hc => ?_⟩
    cases i with
    | zero => simp at ho hc; subst ho; subst hc; exact h.1
    | succ i => exact h2 i o' ci' (by simpa using ho) (by simpa using hc)

def ExRel (g : G) (N : Nat) : Ex → Exit → Prop
  | .normal, .normal => True
  | .exit id, .exit id' => id = id'
  | .goto l, .goto l' => l = l'
  | .ret, .ret => True
  | .panic v, .panic ch => ∃ x, ch = [{ v := x, recovered := false }] ∧ VRel g N v x
  | _, _ => False

/-- What is reached, seen from a state with names g below N. -/
def Reach (c : Base) (g : G) (N : Nat) (nt : NT) (Q : Ex → F → H → Prop) (e : Exit) (a : Act) (w : World) : Prop :=
  ∃ ex f h g', Q ex f h ∧ ExRel g' h.next ex e ∧ Rel c g' h w ∧ FRel g' h.next nt f a ∧ Agree N g g' ∧ N ≤ h.next

theorem Reach.trans {c : Base} {g g1 : G} {N N1 : Nat} {nt : NT} {Q : Ex → F → H → Prop} {e : Exit} {a : Act} {w : World} (r : Reach c g1 N1 nt Q e a w) (ha : Agree N g g1) (hn : N ≤ N1) : Reach c g N nt Q e a w := by
  obtain ⟨ex, f, h, g', q, e1, R, Fr, ag, le⟩ := r
  exact ⟨ex, f, h, g', q, e1, R, Fr, ha.trans ag hn, by omega⟩

section
variable {P : Program} [LibC P] {c : Base} {nt : NT}

theorem op_sound (hL : LibB P c) {o : Oper} {ci : CI} {draw : Bool} (hc : chkCI P nt.n draw o ci = true) {f : F} {h : H} {K : F → H → Prop} {Kp : V → F → H → Prop} (hop : aOp P ci f h K Kp)
    {g : G} {w : World} {a : Act} (R : Rel c g h w) (Fr : FRel g h.next nt f a) {KK : Act → World → Prop} {QQ : Exit → Act → World → Prop}
    (hK : ∀ f' h' g' y w', K f' h' → Rel c g' h' w' → FRel g' h'.next nt f' (a.put o.dst y) → Agree h.next g g' → h.next ≤ h'.next → KK (a.put o.dst y) w')
    (hP : ∀ v f' h' g' a' w' x, Kp v f' h' → Rel c g' h' w' → FRel g' h'.next nt f' a' → Agree h.next g g' → h.next ≤ h'.next → VRel g' h'.next v x → QQ (.panic [{ v := x, recovered := false }]) a' w') :
    o.wp P a w KK QQ := by
  simp only [chkCI, Bool.and_eq_true, beq_iff_eq] at hc
  obtain ⟨⟨⟨⟨h1, h2⟩, h3⟩, h4⟩, h5⟩ := hc
  have hd : ∀ t, ci.dst = some t → t < nt.n := by
    intro t ht; rw [ht] at h3; simpa using h3
  have hg := step_good R Fr o ci.op h1
  unfold aOp at hop
  unfold Oper.wp
  generalize step f h ci.op = r at hop hg
  cases r with
  | val v h' =>
    obtain ⟨x, w', g', q1, q2, q3, q4, q5⟩ := hg
    rw [q1]
    simp only [Oper.upon]
    exact hK _ _ g' _ _ hop q2 (by rw [h2]; exact (Fr.mono q4 q5).put ci.dst hd q3) q4 q5
  | unit h' =>
    obtain ⟨w', g', q1, q2, q4, q5⟩ := hg
    rw [q1]
    simp only [Oper.upon]
    exact hK _ _ g' _ _ hop q2 (by rw [h2]; exact (Fr.mono q4 q5).put ci.dst hd (by simp [VRel, undef, VsRel])) q4 q5
  | call k vs =>
    obtain ⟨hk, ht⟩ := hop
    obtain ⟨xs, q1, q2⟩ := hg hk
    rw [q1]
    simp only [Oper.upon]
    refine (ht c hL g w xs R q2).mono ?_
    rintro e w' ⟨out, h', g', q, R', ag, le, er⟩
    cases out with
    | ret v =>
      cases e <;> simp only [ERel] at er
      exact hK _ _ g' _ _ q R' (by rw [h2]; exact (Fr.mono ag le).put ci.dst hd er) ag le
    | panic v =>
      cases e <;> simp only [ERel] at er
      obtain ⟨x, rfl, hx⟩ := er
      exact hP v f h' g' a w' x q R' (Fr.mono ag le) ag le hx
  | panic v =>
    obtain ⟨x, q1, q2⟩ := hg
    rw [q1]
    simp only [Oper.upon]
    exact hP v f h g a w x hop R Fr (Agree.refl _ _) (Nat.le_refl _) q2
  | bad => exact hop.elim

theorem want_sound {os : Array Oper} {cs : List CI} {draw : Bool} (hl : os.toList.length = cs.length) (hcs : ∀ (i : Nat) (o : Oper) (ci : CI), os.toList[i]? = some o → cs[i]? = some ci → chkCI P nt.n draw o ci = true) {o : Oper} {ci : CI} (hg : o.guard = ci.guard)
    {g : G} {N : Nat} {f : F} {a : Act} (Fr : FRel g N nt f a) {b : Bool} (hw : want cs f ci = some b) : Region.wanted o (yielded os a.tmps) = b := by
  unfold want at hw
  unfold Region.wanted
  rw [hg]
  split at hw
  · rename_i hgd; simp at hw; subst hw; rw [hgd]
  · rename_i j bb hgd
    rw [hgd]
    simp only
    split at hw
    · rename_i t ht
      have hdst : (os[j]?).bind (·.dst) = some t := by
        cases hcj : cs[j]? with
        | none => simp [hcj] at ht
        | some cj =>
          simp [hcj] at ht
          have hj : j < cs.length := (List.getElem?_eq_some_iff.1 hcj).1
          have hj2 : j < os.toList.length := by omega
          have ho : os.toList[j]? = some os.toList[j] := by simp
          have hck := hcs j _ cj ho hcj
          simp only [chkCI, Bool.and_eq_true, beq_iff_eq] at hck
          have e1 := hck.1.1.1.2
          have e2 : os[j]? = some os.toList[j] := by simp
          rw [e2]
          simp only [Option.bind_some]
          rw [e1, ht]
      have htl : t < a.tmps.size := by
        cases hcj : cs[j]? with
        | none => simp [hcj] at ht
        | some cj =>
          simp [hcj] at ht
          have hj : j < cs.length := (List.getElem?_eq_some_iff.1 hcj).1
          have ho : os.toList[j]? = some (os.toList[j]'(by omega)) := by simp
          have hck := hcs j _ cj ho hcj
          simp only [chkCI, Bool.and_eq_true, beq_iff_eq] at hck
          have e1 := hck.1.1.2
          rw [ht] at e1
          rw [Fr.size]
          simpa using e1
      have hv := Fr.val t
      have hget : a.tmps[t]? = some (a.tmps.getD t undef) := by simp [Array.getD, htl]
      simp only [yielded, hdst, Option.bind_some, hget]
      split at hw
      · rename_i x hx
        rw [hx] at hv; simp only [VRel] at hv
        injection hw with hw
        subst hw
        rw [hv]
        cases x <;> cases bb <;> rfl
      · rename_i hx
        rw [hx] at hv
        simp only [VRel, VsRel] at hv
        obtain ⟨C, hC, _⟩ := hv
        injection hw with hw
        subst hw
        rw [hC]
        cases bb <;> rfl
      · cases hw
    · cases hw

theorem go_sound (hL : LibB P c) {os : Array Oper} {cs : List CI} {draw : Bool} (hl : os.toList.length = cs.length) (hcs : ∀ (i : Nat) (o : Oper) (ci : CI), os.toList[i]? = some o → cs[i]? = some ci → chkCI P nt.n draw o ci = true) {i : Nat} {o : Oper} {ci : CI} (hi : os[i]? = some o) (hci : cs[i]? = some ci)
    {f : F} {h : H} {K : F → H → Prop} {Kp : V → F → H → Prop} (hop : aGo P cs ci f h K Kp)
    {g : G} {w : World} {a : Act} (R : Rel c g h w) (Fr : FRel g h.next nt f a) {KK : Act → World → Prop} {QQ : Exit → Act → World → Prop}
    (hK : ∀ f' h' g' y w', K f' h' → Rel c g' h' w' → FRel g' h'.next nt f' (a.put o.dst y) → Agree h.next g g' → h.next ≤ h'.next → KK (a.put o.dst y) w')
    (hP : ∀ v f' h' g' a' w' x, Kp v f' h' → Rel c g' h' w' → FRel g' h'.next nt f' a' → Agree h.next g g' → h.next ≤ h'.next → VRel g' h'.next v x → QQ (.panic [{ v := x, recovered := false }]) a' w') :
    wpOp P os QQ i KK a w := by
  have hck := hcs i o ci (by simpa using hi) hci
  have hck0 := hck
  simp only [chkCI, Bool.and_eq_true, beq_iff_eq] at hck
  obtain ⟨⟨⟨⟨h1, h2⟩, h3⟩, h4⟩, h5⟩ := hck
  unfold wpOp
  rw [hi]
  simp only
  unfold aGo at hop
  split at hop
  · rename_i hw
    rw [want_sound hl hcs h4 Fr hw]
    exact .inl (op_sound hL hck0 hop R Fr hK hP)
  · rename_i hw
    rw [want_sound hl hcs h4 Fr hw]
    simp only [Bool.false_eq_true, if_false]
    exact hK _ _ g _ _ hop R (by rw [h2]; exact Fr.put ci.dst (fun t ht => by rw [ht] at h3; simpa using h3) (by simp [VRel, undef, VsRel])) (Agree.refl _ _) (Nat.le_refl _)
  · exact hop.elim

theorem ops_sound (hL : LibB P c) {os : Array Oper} {cs : List CI} {draw : Bool} (hl : os.toList.length = cs.length) (hcs : ∀ (i : Nat) (o : Oper) (ci : CI), os.toList[i]? = some o → cs[i]? = some ci → chkCI P nt.n draw o ci = true) (Q : Ex → F → H → Prop) (g0 : G) (N0 : Nat) :
    ∀ (rest : List CI) (i : Nat), cs.drop i = rest → ∀ (f : F) (h : H), aOps P cs (Q .normal) (fun v => Q (.panic v)) rest f h → ∀ (g : G) (w : World) (a : Act), Rel c g h w → FRel g h.next nt f a → Agree N0 g0 g → N0 ≤ h.next →
      wpOps P os (Reach c g0 N0 nt Q) (List.range' i (cs.length - i)) a w
  | [], i, hd, f, h, ho, g, w, a, R, Fr, ag0, le0 => by
    have : cs.length ≤ i := by simpa [List.drop_eq_nil_iff] using hd
    rw [show cs.length - i = 0 from by omega]
    simp only [List.range'_zero, wpOps]
    exact ⟨.normal, f, h, g, ho, trivial, R, Fr, ag0, le0⟩
  | ci :: rest, i, hd, f, h, ho, g, w, a, R, Fr, ag0, le0 => by
    have hi : i < cs.length := by
      rcases Nat.lt_or_ge i cs.length with h1 | h1
      · exact h1
      · rw [List.drop_eq_nil_of_le h1] at hd; cases hd
    have hci : cs[i]? = some ci := by
      have := congrArg (fun l : List CI => l[0]?) hd
      simpa [List.getElem?_drop] using this
    have hd2 : cs.drop (i + 1) = rest := by
      have := congrArg (List.drop 1) hd
      simpa [List.drop_drop, Nat.add_comm] using this
    have hoi : os[i]? = some (os.toList[i]'(by omega)) := by simp
    rw [show cs.length - i = (cs.length - (i + 1)) + 1 from by omega, List.range'_succ, wpOps_cons]
    refine go_sound hL hl hcs hoi hci ho R Fr ?_ ?_
    · intro f' h' g' a' w' hk R' Fr' ag le
      exact ops_sound hL hl hcs Q g0 N0 rest (i + 1) hd2 f' h' hk g' w' _ R' Fr' (ag0.trans ag le0) (by omega)
    · intro v f' h' g' a' w' x hp R' Fr' ag le hv
      exact ⟨.panic v, f', h', g', hp, ⟨x, rfl, hv⟩, R', Fr', ag0.trans ag le0, by omega⟩

theorem ready_eq {os : Array Oper} {cs : List CI} (hl : os.toList.length = cs.length) (hcs : ∀ (i : Nat) (o : Oper) (ci : CI), os.toList[i]? = some o → cs[i]? = some ci → chkCI P nt.n true o ci = true) (listed : Array Bool) :
    Region.ready .any os listed = readyC cs listed := by
  unfold Region.ready readyC
  have : os.size = cs.length := by simpa using hl
  rw [this]
  apply List.filter_congr
  intro i hi
  have hi' : i < cs.length := by simpa using hi
  have ho : os[i]? = some (os.toList[i]'(by omega)) := by simp
  have hci : cs[i]? = some cs[i] := by simp [hi']
  have hck := hcs i (os.toList[i]'(by omega)) cs[i] (by simp) hci
  simp only [chkCI, Bool.and_eq_true, Bool.not_true, Bool.false_or, beq_iff_eq] at hck
  have h5 := hck.2
  rw [ho, hci]
  simp only [Option.map_some, Option.getD_some]
  rw [← h5]
  congr 1
  rw [← Array.all_toList]
  simp [List.all_map, List.all_filter]
end
end Go.Ab

/-! Regions whose order is open: one order suffices, where what only reads reads the same, and new blocks come late. -/
set_option linter.unusedVariables false
set_option linter.unusedSectionVars false
set_option linter.unusedSimpArgs false
namespace Go.Ab
open Go.RowKit

/-- Operations that only read. -/
def rdOnly : COp → Bool
  | .mv _ | .pick _ _ _ | .build _ _ | .load _ _ _ | .nilck _ | .bin _ _ _ | .eqb _ _ _ | .eqn _ _ _ _ | .eqa _ _ _ _ | .un _ _ | .toInt _ _ | .toStr _ | .b2s _ | .mkI _ _ | .mkF _ _ _
  | .sls _ _ _ | .slv _ _ _ _ _ | .fadr _ _ | .fld _ _ _ _ | .iadr _ _ _ | .iadrA _ _ _ _ | .idxS _ _ | .idxA _ _ _ _ _ | .look _ _ _ _ _ | .tas _ _ _ _ | .ext _ _ | .lenS _ | .lenV _ | .lenM _ | .lenA _ | .mx _ _ | .mn _ _ | .noe _ | .upt _ | .usd _ => true
  | _ => false

theorem ofV_cases (h : H) (v : Option V) : (∃ u, ofV h v = .val u h) ∨ ofV h v = .bad := by cases v <;> simp [ofV]

theorem rdOnly_step {f : F} {h : H} {op : COp} (ho : rdOnly op = true) : (∃ v, step f h op = .val v h) ∨ step f h op = .bad := by
  cases op <;> simp only [rdOnly, Bool.false_eq_true] at ho <;> simp only [step] <;> (repeat' split) <;>
    first
    | exact .inl ⟨_, rfl⟩
    | exact .inr rfl
    | exact ofV_cases _ _

/-- The temporaries that an operation looks at. -/
def X.tm : X → List Nat
  | .t n => [n]
  | _ => []
def oX (x : Option X) : List Nat := match x with
  | some x => x.tm
  | none => []
def COp.tms : COp → List Nat
  | .mv x | .box _ x | .upt x | .ufp _ x | .noe x | .usd x | .load _ _ x | .nilck x | .un _ x | .toInt _ x | .toStr x | .b2s x | .s2b x | .mkI _ x | .fadr _ x | .fld _ _ _ x | .tas _ _ _ x | .ext x _ | .lenS x | .lenV x | .lenM x | .clr _ _ x | .dfr x | .pan x => x.tm
  | .pick a b c => a.tm ++ b.tm ++ c.tm
  | .build _ ps => ps.flatMap fun p => p.2.2.tm
  | .bslice _ _ _ ps => ps.flatMap fun p => p.2.tm
  | .store _ x y | .bin _ x y | .eqb _ x y | .eqn _ _ x y | .eqa _ _ x y | .iadr _ x y | .iadrA _ _ x y | .idxS x y | .idxA _ _ _ x y | .look _ _ _ x y | .app _ _ _ _ x y | .appS _ x y | .ustr _ x y | .copy _ x y | .mx x y | .mn x y | .mkS _ _ _ x y => x.tm ++ y.tm
  | .mkF _ l m => (l ++ m).flatMap X.tm
  | .sls x a b => x.tm ++ oX a ++ oX b
  | .slv _ x a b c => x.tm ++ oX a ++ oX b ++ oX c
  | .mset _ x y z => x.tm ++ y.tm ++ z.tm
  | .call _ xs => xs.flatMap X.tm
  | .callV x xs => x.tm ++ xs.flatMap X.tm
  | .alloc _ _ | .mkM | .lenA _ | .rcv => []

theorem rd_congr {f f' : F} {x : X} (h : ∀ t ∈ x.tm, f t = f' t) : rd f x = rd f' x := by
  cases x <;> simp [rd, X.tm] at *
  exact h

theorem rds_congr {f f' : F} {xs : List X} (h : ∀ t ∈ xs.flatMap X.tm, f t = f' t) : xs.map (rd f) = xs.map (rd f') := by
  apply List.map_congr_left
  intro x hx
  exact rd_congr fun t ht => h t (List.mem_flatMap.2 ⟨x, hx, ht⟩)

theorem lo_congr {f f' : F} {x : Option X} (d : Option Int) (h : ∀ t ∈ oX x, f t = f' t) : lo? f x d = lo? f' x d := by
  cases x with
  | none => rfl
  | some x => simp only [lo?, rd_congr h]

theorem parts_congr {f f' : F} : ∀ {ps : List (Nat × Nat × X)}, (∀ t ∈ ps.flatMap (fun p => p.2.2.tm), f t = f' t) → partsV f ps = partsV f' ps
  | [], _ => rfl
  | (a, b, x) :: ps, h => by
    simp only [partsV]
    rw [rd_congr (x := x) (fun t ht => h t (by simp [ht])), parts_congr (ps := ps) (fun t ht => h t (by
      rw [List.flatMap_cons]; exact List.mem_append_right _ ht))]

theorem step_congr {f f' : F} {h : H} {op : COp} (ht : ∀ t ∈ op.tms, f t = f' t) : step f h op = step f' h op := by
  cases op with
  | build z ps =>
    simp only [step]
    rw [parts_congr (ps := ps) (fun t h => ht t (by simpa [COp.tms] using h))]
  | bslice sz len z ps =>
    simp only [step]
    rw [parts_congr (f := f) (f' := f') (ps := ps.map fun (p : Nat × X) => (p.1 * sz, sz, p.2)) (fun t h => ht t (by
      simp only [COp.tms]
      simpa [List.flatMap_map] using h))]
  | mkF k l m =>
    simp only [COp.tms, List.mem_append, List.flatMap_append] at ht
    simp only [step]
    rw [rds_congr (f := f) (f' := f') (xs := l) (fun t h => ht t (by simp only [h, true_or])), rds_congr (f := f) (f' := f') (xs := m) (fun t h => ht t (by simp only [h, or_true]))]
  | call k xs =>
    simp only [COp.tms] at ht
    simp only [step]
    rw [rds_congr (f := f) (f' := f') (xs := xs) ht]
  | callV x xs =>
    simp only [COp.tms, List.mem_append] at ht
    simp only [step]
    rw [rd_congr (f := f) (f' := f') (x := x) (fun t h => ht t (.inl h)), rds_congr (f := f) (f' := f') (xs := xs) (fun t h => ht t (.inr h))]
  | slv sz x a b c =>
    simp only [COp.tms, List.mem_append] at ht
    have e0 := rd_congr (f := f) (f' := f') (x := x) (fun t h => ht t (by simp only [h, true_or]))
    have e1 := fun d => lo_congr (f := f) (f' := f') (x := a) d (fun t h => ht t (by simp only [h, true_or, or_true]))
    have e2 := fun d => lo_congr (f := f) (f' := f') (x := b) d (fun t h => ht t (by simp only [h, true_or, or_true]))
    have e3 := fun d => lo_congr (f := f) (f' := f') (x := c) d (fun t h => ht t (by simp only [h, or_true]))
    cases c <;> simp only [step, e0, e1, e2, e3] <;> (cases rd f' x <;> first | rfl | (rename_i a1 _ _; rcases a1 with _ | ⟨_, _⟩ <;> first | rfl | simp only [e3]))
  | _ =>
    simp only [COp.tms, List.mem_append, List.flatMap_append] at ht
    simp only [step]
    first
    | done
    | (rw [rd_congr (f := f) (f' := f') (fun t h => ht t h)]; done)
    | (rename_i x y; rw [rd_congr (f := f) (f' := f') (x := x) (fun t h => ht t (by simp [h])), rd_congr (f := f) (f' := f') (x := y) (fun t h => ht t (by simp [h]))]; done)
    | (rename_i x y z; rw [rd_congr (f := f) (f' := f') (x := x) (fun t h => ht t (by simp [h])), rd_congr (f := f) (f' := f') (x := y) (fun t h => ht t (by simp [h])), rd_congr (f := f) (f' := f') (x := z) (fun t h => ht t (by simp [h]))]; done)
    | (rename_i x a b; rw [rd_congr (f := f) (f' := f') (x := x) (fun t h => ht t (by simp [h])), lo_congr (f := f) (f' := f') (x := a) _ (fun t h => ht t (by simp [h]))]; split <;> first | rfl | (rw [lo_congr (f := f) (f' := f') (x := b) _ (fun t h => ht t (by simp [h]))]); done)


/-- What must have run ahead of an operation. -/
def cl (ops : List CI) : Nat → Nat → List Nat
  | 0, _ => []
  | n + 1, i => match ops[i]? with
    | some ci => ci.after ++ ci.after.flatMap (cl ops n)
    | none => []

def CI.looks (ops : List CI) (ci : CI) : List Nat := ci.op.tms ++ (match ci.guard with
  | some (j, _) => (match (ops[j]?).bind (·.dst) with
    | some t => [t]
    | none => [])
  | none => [])

/-- An operation's reading. -/
def rdVal (ops : List CI) (ci : CI) (f : F) (h : H) : Option V := match want ops f ci with
  | some true => (match step f h ci.op with
    | .val v _ => some v
    | _ => none)
  | some false => some (.tup [])
  | none => none

theorem want_congr {ops : List CI} {ci : CI} {f f' : F} (ht : ∀ t ∈ ci.looks ops, f t = f' t) : want ops f ci = want ops f' ci := by
  unfold want
  cases hg : ci.guard with
  | none => rfl
  | some p =>
    obtain ⟨j, b⟩ := p
    simp only
    cases hd : (ops[j]?).bind (·.dst) with
    | none => rfl
    | some t => simp only; rw [ht t (by simp [CI.looks, hg, hd])]

theorem stepL_congr {ops : List CI} {ci : CI} {f f' : F} {h : H} (ht : ∀ t ∈ ci.looks ops, f t = f' t) : step f h ci.op = step f' h ci.op :=
  step_congr fun t hh => ht t (by simp [CI.looks, hh])

theorem rdVal_congr {ops : List CI} {ci : CI} {f f' : F} {h : H} (ht : ∀ t ∈ ci.looks ops, f t = f' t) : rdVal ops ci f h = rdVal ops ci f' h := by
  unfold rdVal; rw [want_congr ht, stepL_congr (h := h) ht]

theorem rdVal_go {P : Program} [LibC P] {ops : List CI} {ci : CI} {f : F} {h : H} {v : V} (ho : rdOnly ci.op = true) (hv : rdVal ops ci f h = some v) {K : F → H → Prop} {Kp : V → F → H → Prop} (hk : K (f.put ci.dst v) h) : aGo P ops ci f h K Kp := by
  unfold rdVal at hv
  unfold aGo
  generalize want ops f ci = wv at hv
  rcases wv with _ | _ | _
  · cases hv
  · simp only at hv
    injection hv with hv; subst hv; exact hk
  · simp only at hv ⊢
    rcases rdOnly_step (f := f) (h := h) ho with ⟨u, hu⟩ | hu
    · rw [hu] at hv; injection hv with hv; subst hv
      unfold aOp; rw [hu]; exact hk
    · rw [hu] at hv; cases hv

/-- Those that must read the same behind w. -/
def obls (ops : List CI) (w : Nat) (done : List Nat) : List Nat :=
  done.filter fun r => (match ops[r]? with
    | some cr => rdOnly cr.op
    | none => false) && !(cl ops ops.length w).contains r

def Same (ops : List CI) (f : F) (h : H) (r : Nat) : Prop := match ops[r]? with
  | some cr => (match cr.dst with
    | some d => rdVal ops cr f h = some (f d)
    | none => ∃ v, rdVal ops cr f h = some v)
  | none => True

def isRd (ops : List CI) (i : Nat) : Bool := match ops[i]? with
  | some ci => rdOnly ci.op
  | none => false

/-- Operations that make a block of which nobody else knows. -/
def pendOp : COp → Bool
  | .alloc _ _ => true
  | .bslice _ _ _ _ => true
  | _ => false

/-- What such an operation makes, and what it yields. -/
def pendRow : COp → F → Option (Bool × Option (Nat × Option Nat) × List V × (Nat → V))
  | .alloc t z => fun _ => some (true, some (t, some z.length), z, fun n => .ptr (some (n, 0)))
  | .bslice sz len z ps => fun f => match partsV f (ps.map fun (p : Nat × X) => (p.1 * sz, sz, p.2)) with
    | some l => match fillV (List.replicate len z).flatten l with
      | some r => some (false, none, r, fun n => .sl (some (n, 0)) sz len)
      | none => none
    | none => none
  | _ => fun _ => none

/-- Has all been written that an operation looks at? -/
def fedBy (ops : List CI) (done : List Nat) (op : COp) : Bool := op.tms.all fun t => (List.range ops.length).all fun j => match ops[j]? with
  | some cj => cj.dst != some t || done.contains j
  | none => true

/-- The slice that a text is made of; a new slice's length. -/
def b2sOf : COp → Option Nat
  | .b2s (.t t) => some t
  | _ => none
def bslOf : COp → Option Nat
  | .bslice _ len _ _ => some len
  | _ => none
/-- The text of a new slice. -/
def pendStr (op : COp) (f : F) : Option (List UInt8) := match bslOf op, pendRow op f with
  | some len, some q => bytes? (q.2.2.1.take len)
  | _, _ => none

/-- Those that may come late will go well. -/
def lateOK (ops : List CI) (lt done : List Nat) (f : F) : Bool := lt.all fun p => done.contains p || (match ops[p]? with
  | some ci => (match b2sOf ci.op with
    | some t => lt.all fun p' => match ops[p']? with
      | some cp => cp.dst != some t || !fedBy ops done cp.op || (pendStr cp.op f).isSome
      | none => true
    | none => !fedBy ops done ci.op || (pendRow ci.op f).isSome)
  | none => false)

/-- Is it a text of a new slice that may come late? -/
def isStr (ops : List CI) (lt : List Nat) (i : Nat) : Bool := lt.contains i && match ops[i]? with
  | some ci => ci.guard.isNone && (match b2sOf ci.op with
    | some t => lt.any fun p => match ops[p]? with
      | some cp => cp.dst == some t && (bslOf cp.op).isSome && (cl ops ops.length i).contains p
      | none => false
    | none => false)
  | none => false
/-- Such a text comes right behind its slice. -/
def nextTo (ops : List CI) (lt : List Nat) (i : Nat) (done : List Nat) : Bool := !isStr ops lt i || match done with
  | p :: _ => (match ops[p]?, ops[i]? with
    | some cp, some ci => (match b2sOf ci.op with
      | some t => cp.dst == some t
      | none => false)
    | _, _ => false)
  | [] => false

/-- Does it come behind all others? -/
def isLast (ops : List CI) (i : Nat) : Bool := (List.range ops.length).all fun j => j == i || (cl ops ops.length i).contains j

/-- May an operation be carried out late? -/
def isPend (ops : List CI) (lt : List Nat) (i : Nat) : Bool := lt.contains i && match ops[i]? with
  | some ci => pendOp ci.op && ci.guard.isNone && ci.op.tms.all fun t => (lt.all fun j => match ops[j]? with
    | some cj => cj.dst != some t
    | none => true) && (List.range ops.length).all fun j => match ops[j]? with
    | some cj => cj.dst != some t || (cl ops ops.length i).contains j
    | none => true
  | none => false

/-- The order serves: each once, behind what must be ahead; those that write in one row, but for new blocks, which come late; those that read as early as may be. -/
def okPerm (ops : List CI) (lt : List Nat) : List Nat → List Nat → Bool
  | [], done => (List.range ops.length).all (done.contains ·) && lt.all fun i => isPend ops lt i || isStr ops lt i
  | i :: rest, done => decide (i < ops.length) && !done.contains i && (cl ops ops.length i).all (done.contains ·) &&
    (lt.contains i || done.all fun w => isRd ops w || (cl ops ops.length i).contains w) && nextTo ops lt i done && okPerm ops lt rest (i :: done)

/-- Temporaries: each is written once, and read behind its writer. -/
def okTmps (ops : List CI) : Bool := (List.range ops.length).all fun i => match ops[i]? with
  | some ci => (match ci.dst with
    | some d => (List.range ops.length).all fun j => match ops[j]? with
      | some cj => (j == i || cj.dst != some d) && (!(cj.looks ops).contains d || (cl ops ops.length j).contains i || isLast ops i)
      | none => true
    | none => true)
  | none => true

def aDraw (P : Program) [LibC P] (ops : List CI) (lt : List Nat) (K : F → H → Prop) (Kp : V → F → H → Prop) : List Nat → List Nat → F → H → Prop
  | [], _, f, h => K f h
  | i :: rest, done, f, h => lateOK ops lt done f = true ∧ match ops[i]? with
    | none => False
    | some ci => if rdOnly ci.op then (match rdVal ops ci f h with
        | some v => aDraw P ops lt K Kp rest (i :: done) (f.put ci.dst v) h
        | none => False)
      else aGo P ops ci f h (fun f' h' => (∀ r ∈ obls ops i done, Same ops f' h' r) ∧ aDraw P ops lt K Kp rest (i :: done) f' h') Kp

def Done (L : Array Bool) (i : Nat) : Prop := L.getD i false = true

theorem Done.lt {L : Array Bool} {i : Nat} (h : Done L i) : i < L.size := by
  rcases Nat.lt_or_ge i L.size with h1 | h1
  · exact h1
  · simp [Done, Array.getD, show ¬ i < L.size from by omega] at h

theorem done_set {L : Array Bool} {i j : Nat} (hi : i < L.size) : Done (L.setIfInBounds i true) j ↔ j = i ∨ Done L j := by
  unfold Done
  simp only [Array.getD_eq_getD_getElem?, Array.getElem?_setIfInBounds]
  by_cases e : i = j
  · subst e; simp [hi]
  · have e2 : ¬ j = i := fun h => e h.symm
    simp [e, e2]

theorem ready_mem {ops : List CI} {L : Array Bool} (hL : L.size = ops.length) {i : Nat} : i ∈ readyC ops L ↔ i < ops.length ∧ ¬ Done L i ∧ ∃ ci, ops[i]? = some ci ∧ ∀ j ∈ ci.after, Done L j := by
  unfold readyC Done
  simp only [List.mem_filter, List.mem_range, Bool.and_eq_true, Bool.not_eq_true']
  constructor
  · rintro ⟨h1, h2, h3⟩
    refine ⟨h1, ?_, ?_⟩
    · have hs : i < L.size := by omega
      simp [Array.getD, hs] at h2 ⊢
      exact h2
    · cases ho : ops[i]? with
      | none => simp [ho] at h3
      | some ci =>
        simp only [ho, Option.map_some, Option.getD_some, List.all_eq_true] at h3
        exact ⟨ci, rfl, h3⟩
  · rintro ⟨h1, h2, ci, h3, h4⟩
    have hs : i < L.size := by omega
    refine ⟨h1, ?_, ?_⟩
    · simp [Array.getD, hs] at h2 ⊢; exact h2
    · simp only [h3, Option.map_some, Option.getD_some, List.all_eq_true]; exact h4

/-- What has run has what must be ahead of it. -/
def Closed (ops : List CI) (L : Array Bool) : Prop := ∀ i ci, Done L i → ops[i]? = some ci → ∀ j ∈ ci.after, Done L j

theorem cl_done {ops : List CI} {L : Array Bool} (hc : Closed ops L) : ∀ (n i : Nat) (ci : CI), ops[i]? = some ci → (∀ j ∈ ci.after, Done L j) → ∀ j ∈ cl ops n i, Done L j
  | 0, i, ci, _, _, j, hj => by simp [cl] at hj
  | n + 1, i, ci, hi, ha, j, hj => by
    simp only [cl, hi, List.mem_append, List.mem_flatMap] at hj
    rcases hj with hj | ⟨k, hk, hj⟩
    · exact ha j hj
    · cases hk2 : ops[k]? with
      | none => cases n <;> simp [cl, hk2] at hj
      | some ck => exact cl_done hc n k ck hk2 (hc k ck (ha k hk) hk2) j hj

def undone (n : Nat) (L : Array Bool) : Nat := ((List.range n).filter fun i => !L.getD i false).length

theorem undone_set {n i : Nat} {L : Array Bool} (hs : i < L.size) (hi : i < n) (hd : ¬ Done L i) : undone n (L.setIfInBounds i true) < undone n L := by
  unfold undone
  have e : (List.range n).filter (fun j => !(L.setIfInBounds i true).getD j false) = ((List.range n).filter fun j => !L.getD j false).filter fun j => j != i := by
    rw [List.filter_filter]
    apply List.filter_congr
    intro j _
    have := done_set (j := j) hs
    unfold Done at this
    by_cases e : j = i
    · subst e; simp [this.2 (.inl rfl)]
    · have e1 : (L.setIfInBounds i true).getD j false = L.getD j false := by
        simp only [Array.getD_eq_getD_getElem?, Array.getElem?_setIfInBounds]
        rw [if_neg (fun h => e h.symm)]
      rw [e1]; simp [e]
  rw [e]
  refine List.length_filter_lt_length_iff_exists.2 ⟨i, ?_, by simp⟩
  unfold Done at hd
  simp [hi]
  simpa using hd

theorem after_cl {ops : List CI} {i j : Nat} {ci : CI} (hi : ops[i]? = some ci) (hj : j ∈ ci.after) : j ∈ cl ops ops.length i := by
  have : 0 < ops.length := Nat.lt_of_le_of_lt (Nat.zero_le _) (List.getElem?_eq_some_iff.1 hi).1
  obtain ⟨n, hn⟩ : ∃ n, ops.length = n + 1 := ⟨ops.length - 1, by omega⟩
  rw [hn]
  simp only [cl, hi]
  exact List.mem_append_left _ hj

theorem okPerm_cons {ops : List CI} {lt : List Nat} {i : Nat} {rest done : List Nat} (h : okPerm ops lt (i :: rest) done = true) : i < ops.length ∧ i ∉ done ∧ (∀ j ∈ cl ops ops.length i, j ∈ done) ∧ (i ∈ lt ∨ ∀ w ∈ done, isRd ops w = true ∨ w ∈ cl ops ops.length i) ∧ okPerm ops lt rest (i :: done) = true := by
  simp only [okPerm, Bool.and_eq_true, decide_eq_true_eq, Bool.not_eq_true', List.all_eq_true, Bool.or_eq_true] at h
  obtain ⟨⟨⟨⟨⟨h1, h2⟩, h3⟩, h4⟩, _⟩, h5⟩ := h
  refine ⟨h1, by simpa using h2, fun j hj => by simpa using h3 j hj, ?_, h5⟩
  rcases h4 with h4 | h4
  · exact .inl (by simpa using h4)
  · exact .inr fun w hw => by simpa using h4 w hw

theorem okPerm_late {ops : List CI} {lt : List Nat} : ∀ {rest done : List Nat}, okPerm ops lt rest done = true → ∀ i ∈ lt, isPend ops lt i = true ∨ isStr ops lt i = true
  | [], done, h, i, hi => by
    simp only [okPerm, Bool.and_eq_true, List.all_eq_true] at h
    simpa using h.2 i hi
  | k :: rest, done, h, i, hi => okPerm_late (okPerm_cons h).2.2.2.2 i hi

theorem okPerm_later {ops : List CI} {lt : List Nat} : ∀ {rest done : List Nat} {i : Nat}, okPerm ops lt rest done = true → i < ops.length → i ∉ done → i ∉ lt → ∀ w ∈ done, isRd ops w = true ∨ w ∈ cl ops ops.length i
  | [], done, i, h, hi, hd, _, _, _ => by
    simp only [okPerm, Bool.and_eq_true, List.all_eq_true] at h
    exact absurd (by simpa using h.1 i (by simpa using hi)) hd
  | k :: rest, done, i, h, hi, hd, hp, w, hw => by
    obtain ⟨h1, h2, h3, h4, h5⟩ := okPerm_cons h
    by_cases e : i = k
    · subst e
      rcases h4 with h4 | h4
      · exact absurd h4 hp
      · exact h4 w hw
    · exact okPerm_later h5 hi (by simp [e, hd]) hp w (by simp [hw])

theorem first_ready {ops : List CI} {lt : List Nat} {L : Array Bool} (hL : L.size = ops.length) : ∀ {rest done : List Nat}, okPerm ops lt rest done = true → (∀ i ∈ done, Done L i) → (∃ i, i < ops.length ∧ ¬ Done L i) → readyC ops L ≠ []
  | [], done, h, hd, ⟨i, hi, hn⟩ => by
    simp only [okPerm, Bool.and_eq_true, List.all_eq_true] at h
    exact absurd (hd i (by simpa using h.1 i (by simpa using hi))) hn
  | k :: rest, done, h, hd, hex => by
    obtain ⟨h1, h2, h3, h4, h5⟩ := okPerm_cons h
    by_cases e : Done L k
    · exact first_ready hL h5 (fun i hi => by
        rcases List.mem_cons.1 hi with rfl | hi
        · exact e
        · exact hd i hi) hex
    · have : k ∈ readyC ops L := (ready_mem hL).2 ⟨h1, e, ops[k], by simp [h1], fun j hj => hd j (h3 j (after_cl (by simp [h1]) hj))⟩
      intro hn
      rw [hn] at this
      cases this

theorem put_ne {f : F} {d : Option Nat} {v : V} {t : Nat} (h : d ≠ some t) : f.put d v t = f t := by
  cases d with
  | none => rfl
  | some n =>
    have : ¬ t = n := fun e => h (by rw [e])
    simp [F.put, this]
theorem put_eq {f : F} {t : Nat} {v : V} : f.put (some t) v t = v := by simp [F.put]

theorem uniq_of {ops : List CI} (ht : okTmps ops = true) {i j : Nat} {ci cj : CI} {t : Nat} (hi : ops[i]? = some ci) (hj : ops[j]? = some cj) (hd : ci.dst = some t) (hd' : cj.dst = some t) : j = i := by
  unfold okTmps at ht
  rw [List.all_eq_true] at ht
  have h1 := ht i (by simpa using (List.getElem?_eq_some_iff.1 hi).1)
  rw [hi] at h1
  simp only [hd] at h1
  rw [List.all_eq_true] at h1
  have h2 := h1 j (by simpa using (List.getElem?_eq_some_iff.1 hj).1)
  rw [hj] at h2
  simp only [Bool.and_eq_true, Bool.or_eq_true] at h2
  rcases h2.1 with h3 | h3
  · simpa using h3
  · simp [hd'] at h3
theorem looks_cl {ops : List CI} (ht : okTmps ops = true) {i r : Nat} {ci cr : CI} {t : Nat} (hi : ops[i]? = some ci) (hr : ops[r]? = some cr) (hd : cr.dst = some t) (htm : t ∈ ci.looks ops) : r ∈ cl ops ops.length i ∨ isLast ops r = true := by
  unfold okTmps at ht
  rw [List.all_eq_true] at ht
  have h1 := ht r (by simpa using (List.getElem?_eq_some_iff.1 hr).1)
  rw [hr] at h1
  simp only [hd] at h1
  rw [List.all_eq_true] at h1
  have h2 := h1 i (by simpa using (List.getElem?_eq_some_iff.1 hi).1)
  rw [hi] at h2
  simp only [Bool.and_eq_true, Bool.or_eq_true] at h2
  rcases h2.2 with (h3 | h3) | h3
  · simp [htm] at h3
  · exact .inl (by simpa using h3)
  · exact .inr h3

theorem last_cl {ops : List CI} {i j : Nat} (h : isLast ops i = true) (hj : j < ops.length) (hne : j ≠ i) : j ∈ cl ops ops.length i := by
  simp only [isLast, List.all_eq_true, Bool.or_eq_true, beq_iff_eq] at h
  exact (h j (by simpa using hj)).resolve_left hne |> fun h => by simpa using h

end Go.Ab

/-! One order of a region suffices. -/
set_option linter.unusedVariables false
set_option linter.unusedSectionVars false
set_option linter.unusedSimpArgs false
namespace Go.Ab
open Go.RowKit

def H.allocG (h : H) (ty : Bool) (tg : Option (Nat × Option Nat)) (o : O) : H := match ty with
  | true => h.allocT tg o
  | false => h.alloc o

theorem allocG_get (h : H) (ty : Bool) (tg : Option (Nat × Option Nat)) (o : O) (b : Nat) : (h.allocG ty tg o).get b = if b = h.next then some o else h.get b := by cases ty <;> rfl
theorem allocG_next (h : H) (ty : Bool) (tg : Option (Nat × Option Nat)) (o : O) : (h.allocG ty tg o).next = h.next + 1 := by cases ty <;> rfl
theorem allocG_ro (h : H) (ty : Bool) (tg : Option (Nat × Option Nat)) (o : O) : (h.allocG ty tg o).ro = h.ro := by cases ty <;> rfl
theorem allocG_ty (h : H) (ty : Bool) (tg : Option (Nat × Option Nat)) (o : O) (b : Nat) : (h.allocG ty tg o).ty b = if ty = true ∧ b = h.next then tg else h.ty b := by
  cases ty <;> simp [H.allocG, H.alloc, H.allocT]

theorem pendRow_step {op : COp} (hp : pendOp op = true) (f : F) (h : H) : step f h op = match pendRow op f with
    | some q => .val (q.2.2.2 h.next) (h.allocG q.1 q.2.1 (.cells q.2.2.1))
    | none => .bad := by
  cases op <;> simp only [pendOp, Bool.false_eq_true] at hp
  · rfl
  · simp only [step, pendRow]
    cases hq : partsV f (List.map (fun p : Nat × X => (p.1 * _, _, p.2)) _) with
    | none => rfl
    | some l =>
      simp only
      cases fillV (List.replicate _ _).flatten l <;> rfl

theorem pendRow_congr {op : COp} {f f' : F} (h : ∀ t ∈ op.tms, f t = f' t) : pendRow op f = pendRow op f' := by
  cases op <;> try rfl
  rename_i sz len z ps
  simp only [pendRow]
  rw [parts_congr (f := f) (f' := f') (ps := ps.map fun (p : Nat × X) => (p.1 * sz, sz, p.2)) (fun t ht => h t (by
      simp only [COp.tms]
      simpa [List.flatMap_map] using ht))]

theorem Rel.shrink {c c2 : Base} {g : G} {h : H} {w : World} (R : Rel c g h w) (hk : Kept c2 c.W) (hS : ∀ i, c2.S i → c.S i) (hZ : ∀ i, c2.Z i → c.Z i) : Rel c2 g h w :=
  ⟨R.dom, R.obj, R.inj, fun b o hb hr hs => R.own b o hb hr (hS _ hs),
   ⟨R.bel.os.trans hk.os, R.bel.tape.trans hk.tape, R.bel.output.trans hk.output, Nat.le_trans hk.size R.bel.size, fun i hi => (R.bel.block i (hS i hi)).trans (hk.block i hi)⟩,
   R.typ, fun b o hb hz => R.hid b o hb (hZ _ hz)⟩

/-- A block that was kept in mind gets its name. -/
theorem Rel.bind {c : Base} {g : G} {h : H} {w : World} (R : Rel c g h w) {β κ : Nat} {r : List V} {C : Array Value} {e : TypeId} {ty : Bool} {tg : Option (Nat × Option Nat)} (hβ : c.Z β) (hX : w.heap[β]? = some (.cells C e))
    (ho : ORel g h.next True κ (.cells r) (.cells C e)) (htag : ty = true → ∀ t' m, tg = some (t', m) → t' = e ∧ ∀ n, m = some n → C.size = n)
    {c2 : Base} (hk : Kept c2 c.W) (hS : ∀ i, c2.S i → c.S i ∧ i ≠ β) (hZ : ∀ i, c2.Z i → c.Z i ∧ i ≠ β) : Rel c2 (setNew g h.next β κ) (h.allocG ty tg (.cells r)) w := by
  have R2 := R.shrink hk (fun i hi => (hS i hi).1) (fun i hi => (hZ i hi).1)
  have hag := setNew_agree g h.next β κ
  have hnew : (setNew g h.next β κ).ι h.next = β := by simp [setNew]
  have hkk : (setNew g h.next β κ).κ h.next = κ := by simp [setNew]
  have hget : ∀ b o', (h.allocG ty tg (.cells r)).get b = some o' → (b = h.next ∧ o' = .cells r) ∨ (b < h.next ∧ h.get b = some o') := by
    intro b o' hb
    rw [allocG_get] at hb
    split at hb
    · rename_i e; injection hb with hb; exact .inl ⟨e, hb.symm⟩
    · exact .inr ⟨R.dom _ _ hb, hb⟩
  refine ⟨?_, ?_, ?_, ?_, R2.bel, ?_, ?_⟩
  · intro b o' hb
    rw [allocG_next]
    rcases hget b o' hb with ⟨rfl, _⟩ | ⟨hlt, _⟩ <;> omega
  · intro b o' hb
    rw [allocG_next, allocG_ro]
    rcases hget b o' hb with ⟨rfl, rfl⟩ | ⟨hlt, hb'⟩
    · refine ⟨_, by rw [hnew]; exact hX, ?_⟩
      rw [hkk]
      obtain ⟨cc, e', fr, h1, h2, h3, h4, h5⟩ := ho.mono hag (show h.next ≤ h.next + 1 by omega)
      exact ⟨cc, e', fr, h1, h2, fun _ => h3 trivial, h4, h5⟩
    · obtain ⟨Y, hY, hO⟩ := R.obj b o' hb'
      exact ⟨Y, by rw [(hag b hlt).1]; exact hY, by rw [(hag b hlt).2]; exact hO.mono hag (show h.next ≤ h.next + 1 by omega)⟩
  · intro b b' o1 o2 hb hb' e
    rcases hget b o1 hb with ⟨rfl, _⟩ | ⟨hlt, hb1⟩ <;> rcases hget b' o2 hb' with ⟨rfl, _⟩ | ⟨hlt', hb1'⟩
    · rfl
    · rw [hnew, (hag b' hlt').1] at e
      exact absurd (e ▸ hβ) (R.hid b' o2 hb1')
    · rw [hnew, (hag b hlt).1] at e
      exact absurd (e ▸ hβ) (R.hid b o1 hb1)
    · rw [(hag b hlt).1, (hag b' hlt').1] at e
      exact R.inj b b' o1 o2 hb1 hb1' e
  · intro b o' hb hro
    rw [allocG_ro] at hro
    rcases hget b o' hb with ⟨rfl, _⟩ | ⟨hlt, hb1⟩
    · rw [hnew]; intro hs; exact (hS _ hs).2 rfl
    · rw [(hag b hlt).1]; exact R2.own b o' hb1 hro
  · intro b t n ht
    rw [allocG_ty] at ht
    rw [allocG_next]
    split at ht
    · rename_i he
      obtain ⟨h1, rfl⟩ := he
      obtain ⟨rfl, hm⟩ := htag h1 _ _ ht
      exact ⟨by omega, fun o' _ => ⟨C, (0, 0), by rw [hnew]; exact hX, hm⟩⟩
    · obtain ⟨hlt, hc⟩ := R.typ b t n ht
      refine ⟨by omega, fun o' ho' => ?_⟩
      rcases hget b o' ho' with ⟨rfl, _⟩ | ⟨_, hb'⟩
      · omega
      · rw [(hag b hlt).1]; exact hc o' hb'
  · intro b o' hb
    rcases hget b o' hb with ⟨rfl, _⟩ | ⟨hlt, hb1⟩
    · rw [hnew]; intro hs; exact (hZ _ hs).2 rfl
    · rw [(hag b hlt).1]; exact R2.hid b o' hb1

theorem Kept.trans {c c' : Base} {w : World} (h : Kept c c'.W) (h' : Kept c' w) (hS : ∀ i, c.S i → c'.S i) : Kept c w :=
  ⟨h'.os.trans h.os, h'.tape.trans h.tape, h'.output.trans h.output, Nat.le_trans h.size h'.size, fun i hi => (h'.block i (hS i hi)).trans (h.block i hi)⟩

/-- A block is made that has no name. -/
theorem Rel.hide {c : Base} {g : G} {h : H} {w : World} (R : Rel c g h w) (X : Obj) {c2 : Base} (hW : c2.W = w.alloc X) (hS : ∀ i, c2.S i → c.S i ∨ i = w.heap.size) (hZ : ∀ i, c2.Z i → c.Z i ∨ i = w.heap.size) : Rel c2 g h (w.alloc X) := by
  refine ⟨R.dom, fun b o hb => ?_, R.inj, ?_, ?_, ?_, ?_⟩
  · obtain ⟨Y, hY, hO⟩ := R.obj b o hb
    exact ⟨Y, by rw [heap_alloc_old w X (R.lt hb)]; exact hY, hO⟩
  · intro b o hb hr hs
    rcases hS _ hs with h1 | h1
    · exact R.own b o hb hr h1
    · have := R.lt hb; omega
  · rw [← hW]; exact ⟨rfl, rfl, rfl, Nat.le_refl _, fun _ _ => rfl⟩
  · intro b t m hb
    obtain ⟨q1, q2⟩ := R.typ b t m hb
    refine ⟨q1, fun o ho => ?_⟩
    obtain ⟨C, fr, z1, z2⟩ := q2 o ho
    exact ⟨C, fr, by rw [heap_alloc_old w X (R.lt ho)]; exact z1, z2⟩
  · intro b o hb hz
    rcases hZ _ hz with h1 | h1
    · exact R.hid b o hb h1
    · have := R.lt hb; omega

section
variable {P : Program} {c : Base} {g : G} {h : H} {w : World} {nt : NT} {f : F} {a : Act}

/-- How a new block is made. -/
theorem pend_run (R : Rel c g h w) (Fr : FRel g h.next nt f a) {o : Oper} {op : COp} (hc : chk P o.op op = true) {ty : Bool} {tg : Option (Nat × Option Nat)} {r : List V} {mk : Nat → V} (hp : pendRow op f = some (ty, tg, r, mk)) :
    ∃ (C : Array Value) (e : TypeId) (κ : Nat) (x : Value), (execOp a.eval o).run P w = .ok (.value x) (w.alloc (.cells C e)) ∧ ORel g h.next True κ (.cells r) (.cells C e) ∧
      (ty = true → ∀ t' m, tg = some (t', m) → t' = e ∧ ∀ n, m = some n → C.size = n) ∧
      ∀ (g' : G) (N' b : Nat), b < N' → g'.ι b = w.heap.size → g'.κ b = κ → VRel g' N' (mk b) x := by
  generalize ho : o.op = op' at hc
  cases op <;> simp only [pendRow, reduceCtorEq] at hp
  · rename_i t z
    simp only [Option.some.injEq, Prod.mk.injEq] at hp
    obtain ⟨rfl, rfl, rfl, rfl⟩ := hp
    simp only [chk] at hc
    split at hc
    · rename_i t0
      simp only [Bool.and_eq_true, beq_iff_eq] at hc
      obtain ⟨rfl, hz⟩ := hc
      obtain ⟨v, hv, hr⟩ := zeroIs_run (w := w) hz
      have hrel := hr g h.next
      have hlen : z.length = v.cells.size := by simpa using hrel.length
      refine ⟨v.cells, t0, v.cells.size, .pointer (some ⟨w.heap.size, 0, none⟩), by simp [execOp, ho, Instr.alloc, hv, run_newVar], ⟨_, _, (0, 0), rfl, rfl, fun _ => rfl, by omega, by rw [hlen, List.take_of_length_le (by simp)]; exact hrel⟩, ?_, ?_⟩
      · intro _ t' m hm
        injection hm with hm
        injection hm with q1 q2
        exact ⟨q1.symm, fun n hn => by rw [← q2] at hn; injection hn with hn; omega⟩
      · intro g' N' b hb hi hk
        simp [VRel, hb, hi]
    · cases hc
  · rename_i sz len z ps
    split at hp
    · rename_i l hl
      split at hp
      · rename_i r' hr
        simp only [Option.some.injEq, Prod.mk.injEq] at hp
        obtain ⟨rfl, rfl, rfl, rfl⟩ := hp
        simp only [chk] at hc
        split at hc
        · rename_i t len' qs
          simp only [Bool.and_eq_true, beq_iff_eq] at hc
          obtain ⟨rfl, hc⟩ := hc
          split at hc
          · rename_i e' ht
            simp only [Bool.and_eq_true, beq_iff_eq, decide_eq_true_eq] at hc
            obtain ⟨⟨⟨⟨⟨hs, hz⟩, hzs⟩, hs0⟩, hbig⟩, hps⟩ := hc
            obtain ⟨v, hv, hrz⟩ := zeroIs_run (w := w) hz
            obtain ⟨h1, h2⟩ := parts_rel Fr _ qs.toList _ l hps hl
            have hvs : v.cells.size = sz := by have := (hrz g h.next).length; simp at this; omega
            have hm := made_rel (g := g) (h := h) (hrz g h.next) len'
            rw [hvs] at hm
            obtain ⟨D, hD, hrel⟩ := fill_rel (g := g) (h := h) (fun i => some (i * sz, sz)) (qs.toList.map fun (z : Nat × Operand) => (z.1, a.eval z.2)) l _ r' _ (by simpa using h1) h2 hm hr
            have hDs : D.size = len' * sz := by
              have q1 := hrel.length
              have : ∀ (ps : List (Nat × List V)) (z r : List V), fillV z ps = some r → r.length = z.length := by
                intro ps
                induction ps with
                | nil => intro z r hr; simp [fillV] at hr; rw [hr]
                | cons p ps ih =>
                  intro z r hr
                  obtain ⟨off, vs⟩ := p
                  simp only [fillV] at hr
                  split at hr
                  · rw [ih _ _ hr]; simp [wr]; omega
                  · cases hr
              have q2 := this _ _ _ hr
              simp at q1 q2
              rw [← q1, q2, hzs]
            have hlen : r'.length = D.size := by simpa using hrel.length
            refine ⟨D, e', D.size, .slice (some ⟨w.heap.size, 0, none⟩) len' len', ?_, ⟨_, _, (0, 0), rfl, rfl, fun _ => rfl, by omega, by rw [hlen, List.take_of_length_le (by simp)]; exact hrel⟩, by simp, ?_⟩
            · have e1 : (qs.map fun (z : Nat × Operand) => (z.1, a.eval z.2)).toList = qs.toList.map fun (z : Nat × Operand) => (z.1, a.eval z.2) := by simp
              have hD' : Instr.fill (fun i => some (i * sz, sz)) ((Array.range (len' * sz)).map (v.cells[· % sz]!)) (qs.map fun (z : Nat × Operand) => (z.1, a.eval z.2)).toList = some D := by rw [e1]; exact hD
              have hb : ¬ (len' * sz > 2 ^ 24) := by omega
              by_cases h0 : len' * sz = 0
              · rw [h0] at hD
                have hz0 : (Array.range 0).map (fun x => v.cells[x % sz]!) = #[] := by apply Array.ext'; simp
                rw [hz0] at hD
                simp only [execOp, ho, Instr.buildSlice, Sem.run_bind, run_underlying (elT_run ht), Result.andThen_ok, szT_run hs, Sem.run_ite, hb, if_false, h0, if_true, Sem.run_pure]
                have hz1 : (Array.range 0).map (fun _ => (default : Value)) = #[] := by apply Array.ext'; simp
                simp [hz1, hD, newRow]
              · simp only [execOp, ho, Instr.buildSlice, Sem.run_bind, run_underlying (elT_run ht), Result.andThen_ok, szT_run hs, Sem.run_ite, hb, if_false, h0, hv, Sem.run_pure, hvs]
                simp [hD, newRow]
            · intro g' N' b hb2 hi hk
              simp only [VRel]
              refine ⟨hb2, len', Nat.le_refl _, ?_, ?_, by simp [hi]⟩
              · have : len' ≤ len' * sz := Nat.le_mul_of_pos_right _ hs0
                simp only [maxLen]; omega
              · rw [hk, hDs]; omega
          · cases hc
        · cases hc
      · cases hp
    · cases hp
end
end Go.Ab

/-! One order of a region suffices: the simulation. -/
set_option linter.unusedVariables false
set_option linter.unusedSectionVars false
set_option linter.unusedSimpArgs false
namespace Go.Ab
open Go.RowKit

/-- An operation that was carried out, and is to come: its block. -/
structure Pend (ops : List CI) (W : World) (g : G) (N : Nat) (fE : F) (a : Act) (p β : Nat) : Prop where
  ex : ∃ (ci : CI) (ty : Bool) (tg : Option (Nat × Option Nat)) (r : List V) (mk : Nat → V) (C : Array Value) (e : TypeId) (κ : Nat),
    ops[p]? = some ci ∧ pendRow ci.op fE = some (ty, tg, r, mk) ∧ W.heap[β]? = some (.cells C e) ∧ ORel g N True κ (.cells r) (.cells C e) ∧
    (ty = true → ∀ t' m, tg = some (t', m) → t' = e ∧ ∀ n, m = some n → C.size = n) ∧
    (∀ (g' : G) (N' b : Nat), b < N' → g'.ι b = β → g'.κ b = κ → ∀ t, ci.dst = some t → VRel g' N' (mk b) (a.tmps.getD t undef))

theorem Pend.mono {ops : List CI} {W W' : World} {g g' : G} {N N' : Nat} {fE fE' : F} {a a' : Act} {p β : Nat} (h : Pend ops W g N fE a p β) (ag : Agree N g g') (le : N ≤ N') (hf : ∀ ci, ops[p]? = some ci → ∀ t ∈ ci.op.tms, fE t = fE' t)
    (ha : ∀ ci t, ops[p]? = some ci → ci.dst = some t → a'.tmps.getD t undef = a.tmps.getD t undef) (hW : W'.heap[β]? = W.heap[β]?) : Pend ops W' g' N' fE' a' p β := by
  obtain ⟨ci, ty, tg, r, mk, C, e, κ, h1, h2, h3, h4, h5, h6⟩ := h.ex
  exact ⟨ci, ty, tg, r, mk, C, e, κ, h1, by rw [← pendRow_congr (hf ci h1)]; exact h2, hW.trans h3, h4.mono ag le, h5, fun g2 N2 b hb hi hk t ht => by rw [ha ci t h1 ht]; exact h6 g2 N2 b hb hi hk t ht⟩

/-- A text that was made, and is to come. -/
structure PendS (ops : List CI) (B : List (Nat × Nat)) (fE : F) (a : Act) (r : Nat) : Prop where
  ex : ∃ (cr : CI) (t p : Nat) (cp : CI) (l : List UInt8) (len : Nat), ops[r]? = some cr ∧ b2sOf cr.op = some t ∧ cr.guard = none ∧ ops[p]? = some cp ∧ cp.dst = some t ∧ (∃ q ∈ B, q.1 = p) ∧ bslOf cp.op = some len ∧ pendStr cp.op fE = some l ∧
    ∀ d, cr.dst = some d → a.tmps.getD d undef = .string ⟨l.toArray⟩

structure Sim (c0 c : Base) (nt : NT) (ops : List CI) (lt : List Nat) (L : Array Bool) (done : List Nat) (fS fE : F) (h : H) (g : G) (w : World) (a : Act) (B : List (Nat × Nat)) (D : List Nat) : Prop where
  kept : Kept c0 c.W
  cS : ∀ i, c.S i ↔ c0.S i ∨ ∃ p ∈ B, p.2 = i
  cZ : ∀ i, c.Z i ↔ c0.Z i ∨ ∃ p ∈ B, p.2 = i
  lo : ∀ p ∈ B, c0.W.heap.size ≤ p.2
  rel : Rel c g h w
  fr : FRel g h.next nt fS a
  pend : ∀ p ∈ B, Pend ops c.W g h.next fE a p.1 p.2
  isB : ∀ p ∈ B, Done L p.1 ∧ p.1 ∉ done ∧ isPend ops lt p.1 = true
  uni : ∀ p ∈ B, ∀ q ∈ B, p.2 = q.2 → p.1 = q.1
  uni1 : ∀ p ∈ B, ∀ q ∈ B, p.1 = q.1 → p.2 = q.2
  isD : ∀ r ∈ D, Done L r ∧ r ∉ done ∧ isStr ops lt r = true
  sub : ∀ i, Done L i → i ∈ done ∨ (∃ p ∈ B, p.1 = i) ∨ i ∈ D
  late : ∀ r ∈ done, ¬ Done L r → isRd ops r = true ∧ Same ops fE h r ∧ isLast ops r = false
  agree : ∀ t, (∀ r cr, ops[r]? = some cr → cr.dst = some t → (r ∈ done ↔ Done L r)) → fS t = fE t

section
variable {P : Program} [LibC P] {c0 c : Base} {nt : NT} {ops : List CI} {lt : List Nat} {K : F → H → Prop} {Kp : V → F → H → Prop} {L : Array Bool} {rest done : List Nat} {fS fE : F} {h : H} {g : G} {w : World} {a : Act} {B : List (Nat × Nat)} {D : List Nat}

theorem same_put (ht : okTmps ops = true) {k : Nat} {ck : CI} (hk : ops[k]? = some ck) (v : V) {r : Nat} {h : H} (hr : r < ops.length) (hcl : k ∉ cl ops ops.length r) (hnl : isLast ops k = false) (hne : r ≠ k) (hs : Same ops fE h r) : Same ops (fE.put ck.dst v) h r := by
  have hr' : ops[r]? = some ops[r] := by simp [hr]
  have keep : rdVal ops ops[r] (fE.put ck.dst v) h = rdVal ops ops[r] fE h := by
    apply rdVal_congr
    intro t htm
    apply put_ne
    intro hd
    rcases looks_cl ht hr' hk hd htm with h1 | h1
    · exact hcl h1
    · rw [hnl] at h1; cases h1
  simp only [Same, hr'] at hs ⊢
  cases hd : ops[r].dst with
  | none => rw [hd] at hs; simp only at hs ⊢; rw [keep]; exact hs
  | some d =>
    rw [hd] at hs; simp only at hs ⊢
    rw [keep, put_ne]
    · exact hs
    · intro hdk
      exact hne (uniq_of ht hk hr' hdk hd)

/-- Those that may come late look at nothing that comes late. -/
theorem pend_looks {p : Nat} {ci : CI} (hp : isPend ops lt p = true) (hi : ops[p]? = some ci) : pendOp ci.op = true ∧ ci.guard = none ∧ (∀ t ∈ ci.op.tms, ∀ j ∈ lt, ∀ cj, ops[j]? = some cj → cj.dst ≠ some t) ∧ ∀ t ∈ ci.op.tms, ∀ j cj, ops[j]? = some cj → cj.dst = some t → j ∈ cl ops ops.length p := by
  simp only [isPend, hi, Bool.and_eq_true, List.all_eq_true] at hp
  refine ⟨hp.2.1.1, by simpa using hp.2.1.2, fun t ht j hj cj hcj => ?_, fun t ht j cj hcj hd => ?_⟩
  · have := (hp.2.2 t ht).1 j hj
    rw [hcj] at this
    simpa using this
  · have := (hp.2.2 t ht).2 j (by simpa using (List.getElem?_eq_some_iff.1 hcj).1)
    rw [hcj] at this
    simp only [hd, bne_self_eq_false, Bool.false_or] at this
    simpa using this

theorem pend_rd {ci : CI} (hp : pendOp ci.op = true) : rdOnly ci.op = false := by
  generalize ci.op = op at hp
  cases op <;> simp [pendOp] at hp <;> rfl

/-- A reading operation ahead is passed. -/
theorem Sim.passRd (S : Sim c0 c nt ops lt L done fS fE h g w a B D) (ht : okTmps ops = true) (hC : Closed ops L) {k : Nat} (h1 : k < ops.length) (h2 : k ∉ done) (h3 : ∀ j ∈ cl ops ops.length k, j ∈ done) (hrd : isRd ops k = true) (hnl : isLast ops k = false) (hkL : ¬ Done L k)
    (hdone : ∀ r ∈ done, r < ops.length ∧ ∀ j ∈ cl ops ops.length r, j ∈ done) (ha : aDraw P ops lt K Kp (k :: rest) done fE h) :
    ∃ fE', (∀ t, ops[k].dst ≠ some t → fE' t = fE t) ∧ Sim c0 c nt ops lt L (k :: done) fS fE' h g w a B D ∧ aDraw P ops lt K Kp rest (k :: done) fE' h := by
  have hk : ops[k]? = some ops[k] := by simp [h1]
  have hrd2 : rdOnly ops[k].op = true := by simpa [isRd, hk] using hrd
  obtain ⟨_, ha⟩ := ha
  simp only [hk, hrd2, if_true] at ha
  split at ha
  · rename_i v hv
    refine ⟨_, fun t hd => put_ne hd, ⟨S.kept, S.cS, S.cZ, S.lo, S.rel, S.fr, ?_, ?_, S.uni, S.uni1, ?_, ?_, ?_, ?_⟩, ha⟩
    · intro p hp
      refine (S.pend p hp).mono (Agree.refl _ _) (Nat.le_refl _) ?_ (fun _ _ _ _ => rfl) rfl
      intro ci hci t htm
      refine (put_ne fun hd => ?_).symm
      have hpL := (S.isB p hp).1
      exact hkL (cl_done hC _ _ ci hci (hC _ ci hpL hci) _ ((pend_looks (S.isB p hp).2.2 hci).2.2.2 t htm _ _ hk hd))
    · intro p hp
      obtain ⟨q1, q2, q3⟩ := S.isB p hp
      refine ⟨q1, ?_, q3⟩
      intro hm
      rcases List.mem_cons.1 hm with e | hm
      · exact hkL (e ▸ q1)
      · exact q2 hm
    · intro r hr
      obtain ⟨q1, q2, q3⟩ := S.isD r hr
      refine ⟨q1, ?_, q3⟩
      intro hm
      rcases List.mem_cons.1 hm with e | hm
      · exact hkL (e ▸ q1)
      · exact q2 hm
    · intro i hi
      rcases S.sub i hi with q | q
      · exact .inl (by simp [q])
      · exact .inr q
    · intro r hr hnL
      rcases List.mem_cons.1 hr with rfl | hr
      · refine ⟨hrd, ?_⟩
        have keep : rdVal ops ops[r] (fE.put ops[r].dst v) h = rdVal ops ops[r] fE h := by
          apply rdVal_congr
          intro t htm
          apply put_ne
          intro hd
          rcases looks_cl ht hk hk hd htm with h4 | h4
          · exact h2 (h3 _ h4)
          · rw [hnl] at h4; cases h4
        refine ⟨?_, hnl⟩
        simp only [Same, hk]
        cases hd : ops[r].dst with
        | none => simp only; rw [hd] at keep; exact ⟨v, by rw [keep]; exact hv⟩
        | some d => simp only; rw [hd] at keep; rw [keep, hv, put_eq]
      · obtain ⟨q1, q2, q3⟩ := S.late r hr hnL
        exact ⟨q1, same_put ht hk v (hdone r hr).1 (fun hc => h2 ((hdone r hr).2 k hc)) hnl (fun e => h2 (e ▸ hr)) q2, q3⟩
    · intro t hcond
      have hne : ops[k].dst ≠ some t := fun hd => hkL ((hcond k _ hk hd).1 (by simp))
      rw [put_ne hne]
      refine S.agree t fun r cr hr hd => ?_
      have hrk : r ≠ k := fun e => by subst e; rw [hk] at hr; injection hr with hr; exact hne (by rw [hr]; exact hd)
      rw [← hcond r cr hr hd]
      simp [hrk]
  · exact ha.elim

/-- What was carried out early is caught up with. -/
theorem Sim.catchUp1 (S : Sim c0 c nt ops lt L done fS fE h g w a B D) (ht : okTmps ops = true) (hC : Closed ops L) {k : Nat} (h1 : k < ops.length) (h2 : k ∉ done) (hkL : Done L k) (hkB : ∃ p ∈ B, p.1 = k) (hkD : k ∉ D)
    (hdone : ∀ r ∈ done, r < ops.length ∧ ∀ j ∈ cl ops ops.length r, j ∈ done) (ha : aDraw P ops lt K Kp (k :: rest) done fE h) :
    ∃ c2 g2 fS2 fE2 B2 ck ty tg r mk, ops[k]? = some ck ∧ pendRow ck.op fE = some (ty, tg, r, mk) ∧ fE2 = fE.put ck.dst (mk h.next) ∧ (∀ p, p ∈ B2 ↔ p ∈ B ∧ p.1 ≠ k) ∧
      Sim c0 c2 nt ops lt L (k :: done) fS2 fE2 (h.allocG ty tg (.cells r)) g2 w a B2 D ∧ aDraw P ops lt K Kp rest (k :: done) fE2 (h.allocG ty tg (.cells r)) ∧ Agree h.next g g2 := by
  have hk : ops[k]? = some ops[k] := by simp [h1]
  obtain ⟨q, hq, hqk⟩ := hkB
  obtain ⟨ki, β⟩ := q
  simp only at hqk
  subst hqk
  have hkp := (S.isB _ hq).2.2
  have hklt : ki ∈ lt := by simp only [isPend, Bool.and_eq_true] at hkp; simpa using hkp.1
  obtain ⟨ci, ty, tg, r, mk, C, e, κ, e1, e2, e3, e4, e5, e6⟩ := (S.pend _ hq).ex
  simp only at e1 e3
  rw [hk] at e1
  injection e1 with e1
  subst e1
  obtain ⟨z1, z2, z3, _⟩ := pend_looks hkp hk
  obtain ⟨_, ha⟩ := ha
  simp only [hk, pend_rd z1, Bool.false_eq_true, if_false] at ha
  have hw : want ops fE ops[ki] = some true := by unfold want; rw [z2]
  unfold aGo at ha
  rw [hw] at ha
  simp only at ha
  unfold aOp at ha
  rw [pendRow_step z1, e2] at ha
  simp only at ha
  obtain ⟨hob, ha⟩ := ha
  have hZ : c.Z β := (S.cZ β).2 (.inr ⟨_, hq, rfl⟩)
  have hSβ : c.S β := c.zs _ hZ
  have hX : w.heap[β]? = some (.cells C e) := (S.rel.bel.block β hSβ).trans e3
  let c2 : Base := ⟨c.W, fun i => c.S i ∧ i ≠ β, fun i => c.Z i ∧ i ≠ β, fun i hi => c.lt i hi.1, fun i hi => ⟨c.zs i hi.1, hi.2⟩⟩
  have hk2 : Kept c2 c.W := ⟨rfl, rfl, rfl, Nat.le_refl _, fun _ _ => rfl⟩
  have R2 := S.rel.bind (c2 := c2) (ty := ty) (tg := tg) hZ hX e4 e5 hk2 (fun i hi => hi) (fun i hi => hi)
  have hag := setNew_agree g h.next β κ
  have hnx : (h.allocG ty tg (.cells r)).next = h.next + 1 := allocG_next _ _ _ _
  have hmem : ∀ p, p ∈ B.filter (fun p => p.2 != β) ↔ p ∈ B ∧ p.2 ≠ β := by intro p; simp [List.mem_filter]
  have hlow : c0.W.heap.size ≤ β := S.lo _ hq
  have hmem1 : ∀ p, p ∈ B.filter (fun p => p.2 != β) ↔ p ∈ B ∧ p.1 ≠ ki := by
    intro p
    rw [hmem]
    constructor
    · rintro ⟨h4, h5⟩
      exact ⟨h4, fun e => h5 (S.uni1 p h4 _ hq e)⟩
    · rintro ⟨h4, h5⟩
      exact ⟨h4, fun e => h5 (S.uni p h4 _ hq e)⟩
  refine ⟨c2, setNew g h.next β κ, fS.put ops[ki].dst (mk h.next), fE.put ops[ki].dst (mk h.next), B.filter (fun p => p.2 != β), ops[ki], ty, tg, r, mk, hk, e2, rfl, hmem1, ⟨S.kept, ?_, ?_, ?_, R2, ?_, ?_, ?_, ?_, ?_, ?_, ?_, ?_, ?_⟩, ha, hag⟩
  · intro i
    show (c.S i ∧ i ≠ β) ↔ _
    rw [S.cS]
    constructor
    · rintro ⟨h4 | ⟨p, hp, rfl⟩, h5⟩
      · exact .inl h4
      · exact .inr ⟨p, (hmem p).2 ⟨hp, h5⟩, rfl⟩
    · rintro (h4 | ⟨p, hp, rfl⟩)
      · exact ⟨.inl h4, fun e => by have := c0.lt _ h4; omega⟩
      · exact ⟨.inr ⟨p, ((hmem p).1 hp).1, rfl⟩, ((hmem p).1 hp).2⟩
  · intro i
    show (c.Z i ∧ i ≠ β) ↔ _
    rw [S.cZ]
    constructor
    · rintro ⟨h4 | ⟨p, hp, rfl⟩, h5⟩
      · exact .inl h4
      · exact .inr ⟨p, (hmem p).2 ⟨hp, h5⟩, rfl⟩
    · rintro (h4 | ⟨p, hp, rfl⟩)
      · exact ⟨.inl h4, fun e => by have := c0.lt _ (c0.zs _ h4); omega⟩
      · exact ⟨.inr ⟨p, ((hmem p).1 hp).1, rfl⟩, ((hmem p).1 hp).2⟩
  · intro p hp; exact S.lo p ((hmem p).1 hp).1
  · have F1 := S.fr.mono hag (show h.next ≤ h.next + 1 by omega)
    rw [hnx]
    refine ⟨F1.size, F1.defers, fun t => ?_⟩
    by_cases hd : ops[ki].dst = some t
    · rw [hd, put_eq]
      exact e6 _ _ h.next (by omega) (by simp [setNew]) (by simp [setNew]) t hd
    · rw [put_ne hd]; exact F1.val t
  · intro p hp
    obtain ⟨hp1, hp2⟩ := (hmem p).1 hp
    rw [hnx]
    refine (S.pend p hp1).mono hag (by omega) ?_ (fun _ _ _ _ => rfl) rfl
    intro ci hci t htm
    refine (put_ne fun hd => ?_).symm
    exact (pend_looks (S.isB p hp1).2.2 hci).2.2.1 t htm ki hklt _ hk hd
  · intro p hp
    obtain ⟨hp1, hp2⟩ := (hmem p).1 hp
    obtain ⟨q1, q2, q3⟩ := S.isB p hp1
    refine ⟨q1, ?_, q3⟩
    intro hm
    rcases List.mem_cons.1 hm with e | hm
    · exact hp2 (S.uni1 p hp1 _ hq e)
    · exact q2 hm
  · intro p hp q hq; exact S.uni p ((hmem p).1 hp).1 q ((hmem q).1 hq).1
  · intro p hp q hq; exact S.uni1 p ((hmem p).1 hp).1 q ((hmem q).1 hq).1
  · intro r hr
    obtain ⟨q1, q2, q3⟩ := S.isD r hr
    refine ⟨q1, ?_, q3⟩
    intro hm
    rcases List.mem_cons.1 hm with e | hm
    · exact hkD (e ▸ hr)
    · exact q2 hm
  · intro i hi
    rcases S.sub i hi with h4 | ⟨p, hp, rfl⟩ | h4
    · exact .inl (by simp [h4])
    · by_cases e : p.2 = β
      · exact .inl (by have := S.uni p hp _ hq e; simp only at this; simp [this])
      · exact .inr (.inl ⟨p, (hmem p).2 ⟨hp, e⟩, rfl⟩)
    · exact .inr (.inr h4)
  · intro r' hr hnL
    have hne : r' ≠ ki := fun e => hnL (e ▸ hkL)
    have hrd : r' ∈ done := by
      rcases List.mem_cons.1 hr with e | hr
      · exact absurd e hne
      · exact hr
    obtain ⟨q1, q2, q3⟩ := S.late r' hrd hnL
    refine ⟨q1, hob r' ?_, q3⟩
    unfold obls
    rw [List.mem_filter]
    refine ⟨hrd, ?_⟩
    have hr' : ops[r']? = some (ops[r']'((hdone r' hrd).1)) := by simp [(hdone r' hrd).1]
    simp only [isRd, hr'] at q1
    simp only [hr', q1, Bool.true_and, Bool.not_eq_true']
    have : r' ∉ cl ops ops.length ki := fun hc => hnL (cl_done hC _ ki _ hk (hC _ _ hkL hk) _ hc)
    simpa using this
  · intro t hcond
    by_cases hd : ops[ki].dst = some t
    · rw [hd, put_eq, put_eq]
    · rw [put_ne hd, put_ne hd]
      refine S.agree t fun r cr hr hdr => ?_
      have hrk : r ≠ ki := fun e => by subst e; rw [hk] at hr; injection hr with hr; exact hd (by rw [hr]; exact hdr)
      rw [← hcond r cr hr hdr]
      simp [hrk]

theorem hdone_cons {k : Nat} (h1 : k < ops.length) (h3 : ∀ j ∈ cl ops ops.length k, j ∈ done) (hdone : ∀ r ∈ done, r < ops.length ∧ ∀ j ∈ cl ops ops.length r, j ∈ done) : ∀ r ∈ k :: done, r < ops.length ∧ ∀ j ∈ cl ops ops.length r, j ∈ k :: done := by
  intro r hr
  rcases List.mem_cons.1 hr with rfl | hr
  · exact ⟨h1, fun j hj => by simp [h3 j hj]⟩
  · exact ⟨(hdone r hr).1, fun j hj => by simp [(hdone r hr).2 j hj]⟩

theorem isStr_some {r : Nat} (h : isStr ops lt r = true) : r ∈ lt ∧ ∃ cr t p cp len, ops[r]? = some cr ∧ cr.guard = none ∧ b2sOf cr.op = some t ∧ p ∈ lt ∧ ops[p]? = some cp ∧ cp.dst = some t ∧ bslOf cp.op = some len ∧ p ∈ cl ops ops.length r := by
  simp only [isStr, Bool.and_eq_true] at h
  refine ⟨by simpa using h.1, ?_⟩
  have h2 := h.2
  split at h2
  · rename_i cr hcr
    simp only [Bool.and_eq_true] at h2
    have h3 := h2.2
    split at h3
    · rename_i t ht
      rw [List.any_eq_true] at h3
      obtain ⟨p, hp, h4⟩ := h3
      split at h4
      · rename_i cp hcp
        simp only [Bool.and_eq_true, beq_iff_eq] at h4
        obtain ⟨len, hlen⟩ := Option.isSome_iff_exists.1 h4.1.2
        exact ⟨cr, t, p, cp, len, hcr, by simpa using h2.1, ht, hp, hcp, h4.1.1, hlen, by simpa using h4.2⟩
      · cases h4
    · cases h3
  · cases h2

theorem b2sOf_op {op : COp} {t : Nat} (h : b2sOf op = some t) : op = .b2s (.t t) := by
  unfold b2sOf at h
  split at h
  · injection h with h; rw [h]
  · cases h

theorem bsl_pend {op : COp} {n : Nat} (h : bslOf op = some n) : pendOp op = true ∧ b2sOf op = none := by
  unfold bslOf at h
  split at h
  · exact ⟨rfl, rfl⟩
  · cases h

/-- A text comes right behind its slice. -/
theorem adj (ht : okTmps ops = true) {r p : Nat} {cr cp : CI} {t : Nat} (hr : ops[r]? = some cr) (hs : isStr ops lt r = true) (hb : b2sOf cr.op = some t) (hp : ops[p]? = some cp) (hd : cp.dst = some t) : ∀ (rest done : List Nat), okPerm ops lt rest done = true → r ∉ done → p ∈ done → ∃ rest', rest = r :: rest'
  | [], done, hok, hrd, _ => by
    simp only [okPerm, Bool.and_eq_true, List.all_eq_true] at hok
    exact absurd (by simpa using hok.1 r (by simpa using (List.getElem?_eq_some_iff.1 hr).1)) hrd
  | k :: rest, done, hok, hrd, hpd => by
    by_cases e : k = r
    · subst e; exact ⟨rest, rfl⟩
    · obtain ⟨h1, h2, h3, h4, h5⟩ := okPerm_cons hok
      obtain ⟨rest', rfl⟩ := adj ht hr hs hb hp hd rest (k :: done) h5 (by simp [hrd, Ne.symm e]) (by simp [hpd])
      simp only [okPerm, Bool.and_eq_true] at h5
      have hn := h5.1.2
      simp only [nextTo, hs, Bool.not_true, Bool.false_or, hr, hb] at hn
      split at hn
      · rename_i ck ci hck hci
        injection hci with hci
        subst hci
        simp only [hb, beq_iff_eq] at hn
        have := uniq_of ht hp hck hd hn
        exact absurd (this ▸ hpd) h2
      · cases hn

theorem pendStr_congr {op : COp} {f f' : F} (h : ∀ t ∈ op.tms, f t = f' t) : pendStr op f = pendStr op f' := by
  unfold pendStr; rw [pendRow_congr h]

/-- A slice and its text, caught up with. -/
theorem Sim.catchUp (S : Sim c0 c nt ops lt L done fS fE h g w a B D) (hS : ∀ r ∈ D, PendS ops B fE a r) (ht : okTmps ops = true) (hC : Closed ops L) {k : Nat} (hok : okPerm ops lt (k :: rest) done = true) (hkL : Done L k)
    (hdone : ∀ r ∈ done, r < ops.length ∧ ∀ j ∈ cl ops ops.length r, j ∈ done) (ha : aDraw P ops lt K Kp (k :: rest) done fE h) :
    ∃ rest2 done2 c2 g2 h2 fS2 fE2 B2 D2, okPerm ops lt rest2 done2 = true ∧ (∀ r ∈ done2, r < ops.length ∧ ∀ j ∈ cl ops ops.length r, j ∈ done2) ∧ rest2.length ≤ rest.length ∧ (∀ i, i ∉ done → ¬ Done L i → i ∉ done2) ∧ Sim c0 c2 nt ops lt L done2 fS2 fE2 h2 g2 w a B2 D2 ∧ (∀ r ∈ D2, PendS ops B2 fE2 a r) ∧ aDraw P ops lt K Kp rest2 done2 fE2 h2 ∧ Agree h.next g g2 ∧ h.next ≤ h2.next := by
  obtain ⟨h1, h2, h3, h4, h5⟩ := okPerm_cons hok
  have hk : ops[k]? = some ops[k] := by simp [h1]
  have hkD : k ∉ D := by
    intro hkD
    obtain ⟨cr, t, p, cp, l, len, e1, e2, e3, e4, e5, ⟨q, hq, rfl⟩, e7, e8, e9⟩ := (hS k hkD).ex
    have hn := hok
    simp only [okPerm, Bool.and_eq_true] at hn
    have hn := hn.1.2
    simp only [nextTo, (S.isD k hkD).2.2, Bool.not_true, Bool.false_or, e1, e2] at hn
    split at hn
    · split at hn
      · rename_i ck ci hck hci
        injection hci with hci
        subst hci
        simp only [e2, beq_iff_eq] at hn
        have := uniq_of ht e4 hck e5 hn
        exact (S.isB q hq).2.1 (by rw [← this]; simp)
      · cases hn
    · cases hn
  have hkB : ∃ p ∈ B, p.1 = k := by
    rcases S.sub k hkL with e | e | e
    · exact absurd e h2
    · exact e
    · exact absurd e hkD
  obtain ⟨c2, g2, fS2, fE2, B2, ck, ty, tg, r0, mk, z1, z2, z3, z4, S2, ha2, ag⟩ := S.catchUp1 ht hC h1 h2 hkL hkB hkD hdone ha
  have hnx : (h.allocG ty tg (.cells r0)).next = h.next + 1 := allocG_next _ _ _ _
  have hdn := hdone_cons h1 h3 hdone
  have hkp : isPend ops lt k = true := by obtain ⟨p, hp, rfl⟩ := hkB; exact (S.isB p hp).2.2
  have hklt : k ∈ lt := by simp only [isPend, Bool.and_eq_true] at hkp; simpa using hkp.1
  have strE : ∀ r ∈ D, ∀ cr t p cp, ops[r]? = some cr → b2sOf cr.op = some t → ops[p]? = some cp → cp.dst = some t → (∃ q ∈ B, q.1 = p) → pendStr cp.op fE2 = pendStr cp.op fE := by
    rintro r hr cr t p cp e1 e2 e4 e5 ⟨q, hq, rfl⟩
    refine pendStr_congr fun t' ht' => ?_
    rw [z3]
    exact put_ne fun hd => (pend_looks (S.isB q hq).2.2 e4).2.2.1 t' ht' k hklt _ z1 hd
  by_cases hex : ∃ r ∈ D, ∃ cr t, ops[r]? = some cr ∧ b2sOf cr.op = some t ∧ ck.dst = some t
  · obtain ⟨r, hrD, cr, t, e1, e2, e5⟩ := hex
    obtain ⟨q1, q2, q3⟩ := S2.isD r hrD
    obtain ⟨rest', rfl⟩ := adj ht e1 q3 e2 z1 e5 rest (k :: done) h5 q2 (by simp)
    obtain ⟨y1, y2, y3, y4, y5⟩ := okPerm_cons h5
    obtain ⟨cr', t', p', cp', l, len, x1, x2, x3, x4, x5, x6, x7, x8, x9⟩ := (hS r hrD).ex
    rw [e1] at x1; injection x1 with x1; subst x1
    rw [e2] at x2; injection x2 with x2; subst x2
    have hpk : p' = k := uniq_of ht z1 x4 e5 x5
    subst hpk
    rw [z1] at x4; injection x4 with x4; subst x4
    obtain ⟨_, ha3⟩ := ha2
    have hrd : rdOnly cr.op = true := by rw [b2sOf_op e2]; rfl
    simp only [e1, hrd, if_true] at ha3
    have hwant : want ops fE2 cr = some true := by unfold want; rw [x3]
    -- the slice that is read
    obtain ⟨sz, z, ps, hop⟩ : ∃ sz z ps, ck.op = .bslice sz len z ps := by
      generalize ck.op = op at x7
      unfold bslOf at x7
      split at x7
      · injection x7 with x7; subst x7; exact ⟨_, _, _, rfl⟩
      · cases x7
    have hmk : mk h.next = .sl (some (h.next, 0)) sz len := by
      rw [hop] at z2
      simp only [pendRow] at z2
      split at z2
      · split at z2
        · simp only [Option.some.injEq, Prod.mk.injEq] at z2
          rw [← z2.2.2.2]
        · cases z2
      · cases z2
    have hft : fE2 t = .sl (some (h.next, 0)) sz len := by rw [z3, e5, put_eq, hmk]
    have hgetN : (h.allocG ty tg (.cells r0)).get h.next = some (.cells r0) := by rw [allocG_get]; simp
    have hl : bytes? (r0.take len) = some l := by
      unfold pendStr at x8
      rw [x7, z2] at x8
      exact x8
    split at ha3
    · rename_i v hv
      have hvl : v = .str l := by
        unfold rdVal at hv
        rw [hwant, b2sOf_op e2] at hv
        simp only [step, rd, hft, H.load, hgetN] at hv
        by_cases hb : 0 + len ≤ r0.length
        · simp only [hb, if_true, List.drop_zero, hl] at hv
          injection hv with hv; exact hv.symm
        · simp only [hb, if_false] at hv; cases hv
      subst hvl
      have hrk : r ≠ p' := fun e => y2 (by simp [e])
      have hB2 : ∀ p ∈ B2, p.1 ≠ r := fun p hp e => by
        have := (S2.isB p hp).2.2
        simp only [isPend, Bool.and_eq_true, e, e1] at this
        have h7 := this.2.1.1
        rw [b2sOf_op e2] at h7; cases h7
      refine ⟨rest', r :: p' :: done, c2, g2, h.allocG ty tg (.cells r0), fS2.put cr.dst (.str l), fE2.put cr.dst (.str l), B2, D.filter (· != r), y5, hdone_cons y1 y3 hdn, by simp, ?_, ⟨S2.kept, S2.cS, S2.cZ, S2.lo, S2.rel, ?_, ?_, ?_, S2.uni, S2.uni1, ?_, ?_, ?_, ?_⟩, ?_, ha3, ag, by omega⟩
      · intro i hi hnL
        simp only [List.mem_cons, not_or]
        exact ⟨fun e => hnL (e ▸ q1), fun e => hnL (e ▸ hkL), hi⟩
      · refine ⟨S2.fr.size, S2.fr.defers, fun n => ?_⟩
        by_cases hd : cr.dst = some n
        · rw [hd, put_eq, x9 n hd]
          simp only [VRel]
        · rw [put_ne hd]; exact S2.fr.val n
      · intro p hp
        refine (S2.pend p hp).mono (Agree.refl _ _) (Nat.le_refl _) ?_ (fun _ _ _ _ => rfl) rfl
        intro ci hci t1 htm
        exact (put_ne fun hd => (pend_looks (S2.isB p hp).2.2 hci).2.2.1 t1 htm r (isStr_some q3).1 _ e1 hd).symm
      · intro p hp
        obtain ⟨w1, w2, w3⟩ := S2.isB p hp
        refine ⟨w1, ?_, w3⟩
        intro hm
        rcases List.mem_cons.1 hm with e | hm
        · exact hB2 p hp e
        · exact w2 hm
      · intro r' hr'
        simp only [List.mem_filter, bne_iff_ne, ne_eq] at hr'
        obtain ⟨w1, w2, w3⟩ := S2.isD r' hr'.1
        refine ⟨w1, ?_, w3⟩
        intro hm
        rcases List.mem_cons.1 hm with e | hm
        · exact hr'.2 e
        · exact w2 hm
      · intro i hi
        by_cases e : i = r
        · exact .inl (by simp [e])
        · rcases S2.sub i hi with w1 | w1 | w1
          · exact .inl (List.mem_cons_of_mem _ w1)
          · exact .inr (.inl w1)
          · exact .inr (.inr (by simp [List.mem_filter, w1, e]))
      · intro r' hr' hnL
        have hne : r' ≠ r := fun e => hnL (e ▸ q1)
        have hrd' : r' ∈ p' :: done := by
          rcases List.mem_cons.1 hr' with e | hr'
          · exact absurd e hne
          · exact hr'
        obtain ⟨w1, w2, w3⟩ := S2.late r' hrd' hnL
        refine ⟨w1, same_put ht e1 _ (hdn r' hrd').1 (fun hc => y2 ((hdn r' hrd').2 r hc)) ?_ hne w2, w3⟩
        cases hl9 : isLast ops r with
        | false => rfl
        | true => exact absurd (cl_done hC _ r cr e1 (hC r cr q1 e1) r' (last_cl hl9 (hdn r' hrd').1 hne)) hnL
      · intro n hcond
        by_cases hd : cr.dst = some n
        · rw [hd, put_eq, put_eq]
        · rw [put_ne hd, put_ne hd]
          refine S2.agree n fun r' cr' hr' hdr => ?_
          have hrk : r' ≠ r := fun e => by subst e; rw [e1] at hr'; injection hr' with hr'; exact hd (by rw [hr']; exact hdr)
          rw [← hcond r' cr' hr' hdr]
          simp [hrk]
      · intro r' hr'
        simp only [List.mem_filter, bne_iff_ne, ne_eq] at hr'
        obtain ⟨cr2, t2, p2, cp2, l2, len2, w1, w2, w3, w4, w5, ⟨q, hq, rfl⟩, w7, w8, w9⟩ := (hS r' hr'.1).ex
        have hne : q.1 ≠ p' := by
          intro e
          rw [e, z1] at w4
          injection w4 with w4
          subst w4
          obtain ⟨rest2, hrest⟩ := adj ht w1 (S2.isD r' hr'.1).2.2 w2 z1 w5 (r :: rest') (p' :: done) h5 (S2.isD r' hr'.1).2.1 (by simp)
          injection hrest with hr1
          exact hr'.2 hr1.symm
        refine ⟨cr2, t2, q.1, cp2, l2, len2, w1, w2, w3, w4, w5, ⟨q, (z4 q).2 ⟨hq, hne⟩, rfl⟩, w7, ?_, w9⟩
        rw [← w8, ← strE r' hr'.1 cr2 t2 q.1 cp2 w1 w2 w4 w5 ⟨q, hq, rfl⟩]
        refine pendStr_congr fun t1 htm => ?_
        exact put_ne fun hd => (pend_looks (S.isB q hq).2.2 w4).2.2.1 t1 htm r (isStr_some q3).1 _ e1 hd
    · exact ha3.elim
  · refine ⟨rest, k :: done, c2, g2, _, fS2, fE2, B2, D, h5, hdn, Nat.le_refl _, ?_, S2, ?_, ha2, ag, by omega⟩
    · intro i hi hnL
      simp only [List.mem_cons, not_or]
      exact ⟨fun e => hnL (e ▸ hkL), hi⟩
    · intro r' hr'
      obtain ⟨cr2, t2, p2, cp2, l2, len2, w1, w2, w3, w4, w5, ⟨q, hq, rfl⟩, w7, w8, w9⟩ := (hS r' hr').ex
      have hne : q.1 ≠ k := by
        intro e
        rw [e, z1] at w4
        injection w4 with w4
        subst w4
        exact hex ⟨r', hr', cr2, t2, w1, w2, w5⟩
      exact ⟨cr2, t2, q.1, cp2, l2, len2, w1, w2, w3, w4, w5, ⟨q, (z4 q).2 ⟨hq, hne⟩, rfl⟩, w7, by rw [strE r' hr' cr2 t2 q.1 cp2 w1 w2 w4 w5 ⟨q, hq, rfl⟩]; exact w8, w9⟩

theorem passS (S : Sim c0 c nt ops lt L done fS fE h g w a B D) (hS : ∀ r ∈ D, PendS ops B fE a r) (ht : okTmps ops = true) (hC : Closed ops L) {k : Nat} {ck : CI} (hk : ops[k]? = some ck) (hkL : ¬ Done L k) {fE2 : F} (hf : ∀ t, ck.dst ≠ some t → fE2 t = fE t) : ∀ r ∈ D, PendS ops B fE2 a r := by
  intro r hr
  obtain ⟨cr2, t2, p2, cp2, l2, len2, w1, w2, w3, w4, w5, ⟨q, hq, rfl⟩, w7, w8, w9⟩ := (hS r hr).ex
  refine ⟨cr2, t2, q.1, cp2, l2, len2, w1, w2, w3, w4, w5, ⟨q, hq, rfl⟩, w7, ?_, w9⟩
  rw [← w8]
  refine pendStr_congr fun t htm => hf t fun hd => ?_
  have hpL := (S.isB q hq).1
  exact hkL (cl_done hC _ _ cp2 w4 (hC _ cp2 hpL w4) _ ((pend_looks (S.isB q hq).2.2 w4).2.2.2 t htm _ _ hk hd))

/-- The state of this order, carried on as far as i. -/
theorem advance (ht : okTmps ops = true) (hC : Closed ops L) {i : Nat} (hin : i < ops.length) (hil : i ∉ lt) (hcl : ∀ j ∈ cl ops ops.length i, Done L j) (hiL : ¬ Done L i) :
    ∀ (n : Nat) (rest done : List Nat) (c : Base) (g : G) (h : H) (fS fE : F) (B : List (Nat × Nat)) (D : List Nat), rest.length ≤ n → okPerm ops lt rest done = true → (∀ r ∈ done, r < ops.length ∧ ∀ j ∈ cl ops ops.length r, j ∈ done) → Sim c0 c nt ops lt L done fS fE h g w a B D → (∀ r ∈ D, PendS ops B fE a r) → aDraw P ops lt K Kp rest done fE h → i ∉ done →
      ∃ post done' c2 g2 h2 fS2 fE2 B2 D2, okPerm ops lt (i :: post) done' = true ∧ (∀ r ∈ done', r < ops.length ∧ ∀ j ∈ cl ops ops.length r, j ∈ done') ∧ Sim c0 c2 nt ops lt L done' fS2 fE2 h2 g2 w a B2 D2 ∧ (∀ r ∈ D2, PendS ops B2 fE2 a r) ∧ aDraw P ops lt K Kp (i :: post) done' fE2 h2 ∧ Agree h.next g g2 ∧ h.next ≤ h2.next
  | n, [], done, c, g, h, fS, fE, B, D, _, hok, _, _, _, _, hi => by
    simp only [okPerm, Bool.and_eq_true, List.all_eq_true] at hok
    exact absurd (by simpa using hok.1 i (by simpa using hin)) hi
  | 0, k :: rest, done, c, g, h, fS, fE, B, D, hle, _, _, _, _, _, _ => by simp at hle
  | n + 1, k :: rest, done, c, g, h, fS, fE, B, D, hle, hok, hdone, S, hS, ha, hi => by
    by_cases e : k = i
    · subst e; exact ⟨rest, done, c, g, h, fS, fE, B, D, hok, hdone, S, hS, ha, Agree.refl _ _, Nat.le_refl _⟩
    · obtain ⟨h1, h2, h3, h4, h5⟩ := okPerm_cons hok
      have hle' : rest.length ≤ n := by simpa using hle
      by_cases hkL : Done L k
      · obtain ⟨rest2, done2, c2, g2, h2', fS2, fE2, B2, D2, z1, z2, z3, z4, S2, hS2, ha2, ag, le⟩ := S.catchUp hS ht hC hok hkL hdone ha
        obtain ⟨post, done', c3, g3, h3', fS3, fE3, B3, D3, q1, q2, q3, q3', q4, q5, q6⟩ := advance ht hC hin hil hcl hiL n rest2 done2 c2 g2 h2' fS2 fE2 B2 D2 (by omega) z1 z2 S2 hS2 ha2 (z4 i hi hiL)
        exact ⟨post, done', c3, g3, h3', fS3, fE3, B3, D3, q1, q2, q3, q3', q4, ag.trans q5 le, by omega⟩
      · have hrd : isRd ops k = true := by
          rcases okPerm_later h5 hin (by simp [hi, Ne.symm e]) hil k (by simp) with h6 | h6
          · exact h6
          · exact absurd (hcl k h6) hkL
        have hnl : isLast ops k = false := by
          cases hl9 : isLast ops k with
          | false => rfl
          | true => exact absurd (h3 i (last_cl hl9 hin (Ne.symm e))) hi
        obtain ⟨fE2, hf2, S2, ha2⟩ := S.passRd ht hC h1 h2 h3 hrd hnl hkL hdone ha
        exact advance ht hC hin hil hcl hiL n rest (k :: done) c g h fS fE2 B D hle' h5 (hdone_cons h1 h3 hdone) S2 (passS S hS ht hC (show ops[k]? = some ops[k] by simp [h1]) hkL hf2) ha2 (by simp [hi, Ne.symm e])

/-- .. to its end, where all has been carried out. -/
theorem finish (ht : okTmps ops = true) (hC : Closed ops L) (hL : L.size = ops.length) (hall : ∀ i, i < ops.length → Done L i) :
    ∀ (n : Nat) (rest done : List Nat) (c : Base) (g : G) (h : H) (fS fE : F) (B : List (Nat × Nat)) (D : List Nat), rest.length ≤ n → okPerm ops lt rest done = true → (∀ r ∈ done, r < ops.length ∧ ∀ j ∈ cl ops ops.length r, j ∈ done) → Sim c0 c nt ops lt L done fS fE h g w a B D → (∀ r ∈ D, PendS ops B fE a r) → aDraw P ops lt K Kp rest done fE h →
      ∃ g2 h2 f2, K f2 h2 ∧ Rel c0 g2 h2 w ∧ FRel g2 h2.next nt f2 a ∧ Agree h.next g g2 ∧ h.next ≤ h2.next
  | n, [], done, c, g, h, fS, fE, B, D, _, hok, hdone, S, hS, ha => by
    simp only [okPerm, Bool.and_eq_true, List.all_eq_true] at hok
    have e : fS = fE := by
      funext t
      refine S.agree t fun r cr hr hd => ?_
      have hr' : r < ops.length := (List.getElem?_eq_some_iff.1 hr).1
      exact ⟨fun _ => hall r hr', fun _ => by simpa using hok.1 r (by simpa using hr')⟩
    subst e
    exact ⟨g, h, fS, ha, S.rel.shrink S.kept (fun i hi => (S.cS i).2 (.inl hi)) (fun i hi => (S.cZ i).2 (.inl hi)), S.fr, Agree.refl _ _, Nat.le_refl _⟩
  | 0, k :: rest, done, c, g, h, fS, fE, B, D, hle, _, _, _, _, _ => by simp at hle
  | n + 1, k :: rest, done, c, g, h, fS, fE, B, D, hle, hok, hdone, S, hS, ha => by
    obtain ⟨h1, h2, h3, h4, h5⟩ := okPerm_cons hok
    have hle' : rest.length ≤ n := by simpa using hle
    obtain ⟨rest2, done2, c2, g2, h2', fS2, fE2, B2, D2, z1, z2, z3, z4, S2, hS2, ha2, ag, le⟩ := S.catchUp hS ht hC hok (hall k h1) hdone ha
    obtain ⟨g3, h3', f3, q1, q2, q3, q4, q5⟩ := finish ht hC hL hall n rest2 done2 c2 g2 h2' fS2 fE2 B2 D2 (by omega) z1 z2 S2 hS2 ha2
    exact ⟨g3, h3', f3, q1, q2, q3, ag.trans q4 le, by omega⟩
end
end Go.Ab

/-! One order of a region suffices: the theorem. -/
set_option linter.unusedVariables false
set_option linter.unusedSectionVars false
set_option linter.unusedSimpArgs false
namespace Go.Ab
open Go.RowKit
section
variable {P : Program} [LibC P] {c0 c : Base} {nt : NT} {ops : List CI} {lt : List Nat} {K : F → H → Prop} {Kp : V → F → H → Prop} {L : Array Bool} {rest done : List Nat} {fS fE : F} {h : H} {g : G} {w : World} {a : Act} {B : List (Nat × Nat)} {D : List Nat}

theorem Sim.libB (S : Sim c0 c nt ops lt L done fS fE h g w a B D) (hL : LibB P c0) : LibB P c := by
  intro w' hw
  refine hL w' fun i hi => ?_
  rw [hw i ((S.cS i).2 (.inl hi))]
  exact S.kept.block i hi

theorem put_tmps_ne {a : Act} {d : Option Nat} {y : Value} {t : Nat} (h : d ≠ some t) : (a.put d y).tmps.getD t undef = a.tmps.getD t undef := by
  cases d with
  | none => rfl
  | some n =>
    have : n ≠ t := fun e => h (by rw [e])
    simp only [Act.put, Array.getD_eq_getD_getElem?]
    rw [Array.getElem?_setIfInBounds_ne this]

theorem aGo_congr {ci : CI} {fE fS : F} {h : H} {K K' : F → H → Prop} {Kp Kp' : V → F → H → Prop} (hl : ∀ t ∈ ci.looks ops, fS t = fE t) (hk : ∀ v h', K (fE.put ci.dst v) h' → K' (fS.put ci.dst v) h') (hp : ∀ v h', Kp v fE h' → Kp' v fS h') (ha : aGo P ops ci fE h K Kp) : aGo P ops ci fS h K' Kp' := by
  unfold aGo at ha ⊢
  rw [want_congr hl]
  generalize want ops fE ci = wv at ha ⊢
  rcases wv with _ | _ | _
  · exact ha.elim
  · exact hk _ _ ha
  · simp only at ha ⊢
    unfold aOp at ha ⊢
    rw [stepL_congr (h := h) hl]
    generalize step fE h ci.op = rr at ha ⊢
    cases rr with
    | val v h' => exact hk _ _ ha
    | unit h' => exact hk _ _ ha
    | call k vs =>
      refine ha.mono fun o h' hq => ?_
      cases o with
      | ret v => exact hk _ _ hq
      | panic v => exact hp _ _ hq
    | panic v => exact hp _ _ ha
    | bad => exact ha.elim

/-- What goes on behind an operation that was carried out in its place. -/
theorem Sim.next (S : Sim c0 c nt ops lt L done fS fE h g w a B D) (ht : okTmps ops = true) (hC : Closed ops L) (hLs : L.size = ops.length) {i : Nat} {ci : CI} (hi : ops[i]? = some ci) (hnL : ¬ Done L i) {d2 : List Nat} (hd2 : ∀ r, r ∈ d2 ↔ r = i ∨ r ∈ done)
    {v : V} {fS2 fE2 : F} {h2 : H} {g2 : G} {w2 : World} {a2 : Act} (hfS : fS2 = fS.put ci.dst v) (hfE : (∀ t, ci.dst ≠ some t → fE2 t = fE t) ∧ ∀ t, ci.dst = some t → fE2 t = v) (R2 : Rel c g2 h2 w2) (Fr2 : FRel g2 h2.next nt fS2 a2) (ag : Agree h.next g g2) (le : h.next ≤ h2.next)
    (ha2 : ∀ t, ci.dst ≠ some t → a2.tmps.getD t undef = a.tmps.getD t undef) (hlate : ∀ r ∈ done, ¬ Done L r → r ≠ i → isRd ops r = true ∧ Same ops fE2 h2 r ∧ isLast ops r = false) : Sim c0 c nt ops lt (L.setIfInBounds i true) d2 fS2 fE2 h2 g2 w2 a2 B D := by
  have hin : i < ops.length := (List.getElem?_eq_some_iff.1 hi).1
  have hs : i < L.size := by omega
  have hBi : ∀ p ∈ B, p.1 ≠ i := fun p hp e => hnL (e ▸ (S.isB p hp).1)
  refine ⟨S.kept, S.cS, S.cZ, S.lo, R2, Fr2, ?_, ?_, S.uni, S.uni1, ?_, ?_, ?_, ?_⟩
  · intro p hp
    have hpi := hBi p hp
    refine (S.pend p hp).mono ag le ?_ ?_ rfl
    · intro cp hcp t htm
      refine (hfE.1 t fun hd => ?_).symm
      have hpL := (S.isB p hp).1
      exact hnL (cl_done hC _ _ cp hcp (hC _ cp hpL hcp) _ ((pend_looks (S.isB p hp).2.2 hcp).2.2.2 t htm _ _ hi hd))
    · intro cp t hcp htd
      refine ha2 t fun hd => hpi (uniq_of ht hi hcp hd htd)
  · intro p hp
    obtain ⟨q1, q2, q3⟩ := S.isB p hp
    refine ⟨(done_set hs).2 (.inr q1), ?_, q3⟩
    intro hm
    rcases (hd2 _).1 hm with e | hm
    · exact hBi p hp e
    · exact q2 hm
  · intro r hr
    obtain ⟨q1, q2, q3⟩ := S.isD r hr
    refine ⟨(done_set hs).2 (.inr q1), ?_, q3⟩
    intro hm
    rcases (hd2 _).1 hm with e | hm
    · exact hnL (e ▸ q1)
    · exact q2 hm
  · intro j hj
    rcases (done_set hs).1 hj with rfl | hj
    · exact .inl ((hd2 _).2 (.inl rfl))
    · rcases S.sub j hj with q | q
      · exact .inl ((hd2 _).2 (.inr q))
      · exact .inr q
  · intro r hr hnL2
    have hri : r ≠ i := fun e => hnL2 ((done_set hs).2 (.inl e))
    have hrd : r ∈ done := by
      rcases (hd2 _).1 hr with e | hr
      · exact absurd e hri
      · exact hr
    exact hlate r hrd (fun hd => hnL2 ((done_set hs).2 (.inr hd))) hri
  · intro t hcond
    by_cases hd : ci.dst = some t
    · rw [hfS, hfE.2 t hd, hd, put_eq]
    · rw [hfS, hfE.1 t hd, put_ne hd]
      refine S.agree t fun r cr hr hdr => ?_
      have hri : r ≠ i := fun e => by subst e; rw [hi] at hr; injection hr with hr; exact hd (by rw [hr]; exact hdr)
      have := hcond r cr hr hdr
      rw [hd2, done_set hs] at this
      simpa [hri] using this

/-- .. and the texts that are to come. -/
theorem Sim.nextS (S : Sim c0 c nt ops lt L done fS fE h g w a B D) (hS : ∀ r ∈ D, PendS ops B fE a r) (ht : okTmps ops = true) (hC : Closed ops L) {i : Nat} {ci : CI} (hi : ops[i]? = some ci) (hnL : ¬ Done L i) {fE2 : F} {a2 : Act} (hf : ∀ t, ci.dst ≠ some t → fE2 t = fE t)
    (ha2 : ∀ t, ci.dst ≠ some t → a2.tmps.getD t undef = a.tmps.getD t undef) : ∀ r ∈ D, PendS ops B fE2 a2 r := by
  intro r hr
  obtain ⟨cr2, t2, p2, cp2, l2, len2, w1, w2, w3, w4, w5, w6, w7, w8, w9⟩ := (passS S hS ht hC hi hnL hf r hr).ex
  refine ⟨cr2, t2, p2, cp2, l2, len2, w1, w2, w3, w4, w5, w6, w7, w8, fun d hd => ?_⟩
  rw [ha2 d fun hdd => hnL (uniq_of ht hi w1 hdd hd ▸ (S.isD r hr).1)]
  exact w9 d hd

theorem b2s_run (o : Oper) {op : COp} {t : Nat} (hc : chk P o.op op = true) (hb : b2sOf op = some t) {β n cc : Nat} {C : Array Value} {e : TypeId} {N : Nat} {r : List V} {l : List UInt8} (ht : a.tmps.getD t undef = .slice (some ⟨β, 0, none⟩) n cc) (hX : w.heap[β]? = some (.cells C e)) {κ : Nat} (ho : ORel g N True κ (.cells r) (.cells C e))
    (hn : n ≤ r.length) (hl : bytes? (r.take n) = some l) : (execOp a.eval o).run P w = .ok (.value (.string ⟨l.toArray⟩)) w := by
  have hop := b2sOf_op hb
  subst hop
  generalize hoo : o.op = oo at hc
  simp only [chk] at hc
  split at hc
  · rename_i s t' y
    simp only [Bool.and_eq_true] at hc
    obtain ⟨⟨h1, h2⟩, h3⟩ := hc
    split at h3
    · rename_i e' he
      have hu := elT_run he
      have hy : a.eval y = .slice (some ⟨β, 0, none⟩) n cc := by
        cases y <;> simp [chkX] at h1
        subst h1
        exact ht
      obtain ⟨cc', e2, fr, q1, q2, q3, q4, q5⟩ := ho
      injection q1 with q1 _ _
      subst q1
      have q6 := q5.take n
      have q7 : (List.take n (List.take r.length C.toList)) = C.toList.take n := by
        rw [List.take_take, Nat.min_eq_left hn]
      rw [q7] at q6
      obtain ⟨ns, hns, rfl⟩ := bytes_rel q6 hl
      have hlen : ns.length = n := by
        have := congrArg List.length hns
        simp at this
        omega
      have := run_convert_bytes_arg (P := P) w s e' hu (isIntT_eq h3) β 0 n cc ns hlen (fun i hi => by
        have hC : C.toList[i]? = some (.int .u8 (ns.getD i 0)) := by
          have := congrArg (fun l : List Value => l[i]?) hns
          simp only [List.getElem?_take, hi, if_true, List.getElem?_map] at this
          rw [this]
          simp [List.getElem?_eq_getElem (show i < ns.length by omega), List.getD]
        simp only [World.cell?, hX]
        simpa using hC) t' (isStrT_eq h2)
      simp [execOp, hoo, hy, this, strOfNums]
    · cases h3
  · cases hc

theorem draw_sound_aux (hL : LibB P c0) {os : Array Oper} (hl : os.toList.length = ops.length) (hcs : ∀ (i : Nat) (o : Oper) (ci : CI), os.toList[i]? = some o → ops[i]? = some ci → chkCI P nt.n true o ci = true) (ht : okTmps ops = true) {perm : List Nat} (hperm : okPerm ops lt perm [] = true) (Q : Ex → F → H → Prop) (g0 : G) (N0 : Nat) :
    ∀ (fuel : Nat) (L : Array Bool) (rest done : List Nat) (c : Base) (fS fE : F) (h : H) (g : G) (w : World) (a : Act) (B : List (Nat × Nat)) (D : List Nat), L.size = ops.length → Closed ops L → okPerm ops lt rest done = true → (∀ r ∈ done, r < ops.length ∧ ∀ j ∈ cl ops ops.length r, j ∈ done) → Sim c0 c nt ops lt L done fS fE h g w a B D → (∀ r ∈ D, PendS ops B fE a r) →
      aDraw P ops lt (Q .normal) (fun v _ h => ∀ f, Q (.panic v) f h) rest done fE h → undone ops.length L ≤ fuel → Agree N0 g0 g → N0 ≤ h.next → wpAny P .any os (Reach c0 g0 N0 nt Q) fuel L a w := by
  have hlt := okPerm_late hperm
  have fin : ∀ (L : Array Bool) (rest done : List Nat) (c : Base) (fS fE : F) (h : H) (g : G) (w : World) (a : Act) (B : List (Nat × Nat)) (D : List Nat), L.size = ops.length → Closed ops L → okPerm ops lt rest done = true → (∀ r ∈ done, r < ops.length ∧ ∀ j ∈ cl ops ops.length r, j ∈ done) → Sim c0 c nt ops lt L done fS fE h g w a B D → (∀ r ∈ D, PendS ops B fE a r) →
      aDraw P ops lt (Q .normal) (fun v _ h => ∀ f, Q (.panic v) f h) rest done fE h → (∀ i, i < ops.length → Done L i) → Agree N0 g0 g → N0 ≤ h.next → Reach c0 g0 N0 nt Q .normal a w := by
    intro L rest done c fS fE h g w a B D hLs hC hok hdone S hS ha hall ag0 le0
    obtain ⟨g2, h2, f2, q1, q2, q3, q4, q5⟩ := finish ht hC hLs hall rest.length rest done c g h fS fE B D (Nat.le_refl _) hok hdone S hS ha
    exact ⟨.normal, f2, h2, g2, q1, trivial, q2, q3, ag0.trans q4 le0, by omega⟩
  intro fuel
  induction fuel with
  | zero =>
    intro L rest done c fS fE h g w a B D hLs hC hok hdone S hS ha hf ag0 le0
    have hall : ∀ i, i < ops.length → Done L i := by
      intro i hi
      unfold undone at hf
      have : ((List.range ops.length).filter fun i => !L.getD i false) = [] := List.eq_nil_of_length_eq_zero (by omega)
      rw [List.filter_eq_nil_iff] at this
      have := this i (by simpa using hi)
      unfold Done
      simpa using this
    refine ⟨?_, fin L rest done c fS fE h g w a B D hLs hC hok hdone S hS ha hall ag0 le0⟩
    rw [ready_eq hl hcs, List.eq_nil_iff_forall_not_mem]
    intro i hi
    obtain ⟨h1, h2, _⟩ := (ready_mem hLs).1 hi
    exact h2 (hall i h1)
  | succ fuel ih =>
    intro L rest done c fS fE h g w a B D hLs hC hok hdone S hS ha hf ag0 le0
    refine ⟨fun hnil => ?_, fun i hi => ?_⟩
    · refine fin L rest done c fS fE h g w a B D hLs hC hok hdone S hS ha (fun i hi => ?_) ag0 le0
      by_cases e : Done L i
      · exact e
      · exact absurd (by rw [ready_eq hl hcs] at hnil; exact hnil) (first_ready hLs hperm (by simp) ⟨i, hi, e⟩)
    · rw [ready_eq hl hcs] at hi
      obtain ⟨h1, h2, ci, hci, haft⟩ := (ready_mem hLs).1 hi
      have hs : i < L.size := by omega
      have hoi : os[i]? = some (os.toList[i]'(by omega)) := by simp
      have hclL : ∀ j ∈ cl ops ops.length i, Done L j := cl_done hC _ i ci hci haft
      have hC' : Closed ops (L.setIfInBounds i true) := by
        intro j cj hj hcj k hk
        rw [done_set hs] at hj ⊢
        rcases hj with rfl | hj
        · rw [hci] at hcj; injection hcj with hcj; subst hcj
          exact .inr (haft k hk)
        · exact .inr (hC j cj hj hcj k hk)
      have hL' : (L.setIfInBounds i true).size = ops.length := by simpa using hLs
      have hf' : undone ops.length (L.setIfInBounds i true) ≤ fuel := by have := undone_set hs h1 h2; omega
      have hck := hcs i (os.toList[i]'(by omega)) ci (by simp) hci
      have hdst : (os.toList[i]'(by omega)).dst = ci.dst := by
        simp only [chkCI, Bool.and_eq_true, beq_iff_eq] at hck
        exact hck.1.1.1.2
      have hpan : ∀ {c' : Base} {g' : G} {h' : H}, Kept c0 c'.W → (∀ i, c0.S i → c'.S i) → (∀ i, c0.Z i → c'.Z i) → Agree N0 g0 g' → N0 ≤ h'.next → ∀ v f' h2 g2 a2 w2 x, (∀ f, Q (.panic v) f h2) → Rel c' g2 h2 w2 → FRel g2 h2.next nt f' a2 → Agree h'.next g' g2 → h'.next ≤ h2.next → VRel g2 h2.next v x → Reach c0 g0 N0 nt Q (.panic [{ v := x, recovered := false }]) a2 w2 := by
        intro c' g' h' hk hS hZ ag le v f' h2 g2 a2 w2 x hq R2 Fr2 ag2 le2 hx
        exact ⟨.panic v, f', h2, g2, hq f', ⟨x, rfl, hx⟩, R2.shrink hk hS hZ, Fr2, ag.trans ag2 le, by omega⟩
      have nolast : ∀ d2 : List Nat, (∀ r ∈ d2, r < ops.length ∧ ∀ j ∈ cl ops ops.length r, j ∈ d2) → i ∉ d2 → ∀ r cr, ops[r]? = some cr → isLast ops r = true → (r ∈ d2 ↔ Done L r) := by
        intro d2 hd2 hi2 r cr hr hrl
        by_cases hne : i = r
        · subst hne; exact ⟨fun h => absurd h hi2, fun h => absurd h h2⟩
        · have hic := last_cl hrl h1 hne
          exact ⟨fun h => absurd ((hd2 r h).2 i hic) hi2, fun h => absurd (cl_done hC _ r cr hr (hC r cr h hr) i hic) h2⟩
      have hlastL : ∀ r, r < ops.length → ¬ Done L r → r ≠ i → isLast ops i = false := by
        intro r hr hnL hri
        cases hl9 : isLast ops i with
        | false => rfl
        | true => exact absurd (hclL r (last_cl hl9 hr hri)) hnL
      by_cases hin : i ∈ done
      · -- what read early reads now
        obtain ⟨hrd, hsame, hnlast⟩ := S.late i hin h2
        have hrd2 : rdOnly ci.op = true := by simpa [isRd, hci] using hrd
        have look : ∀ t ∈ ci.looks ops, fS t = fE t := by
          intro t htm
          refine S.agree t fun r cr hr hd => ?_
          rcases looks_cl ht hci hr hd htm with hrc | hrc
          · exact ⟨fun _ => hclL r hrc, fun _ => (hdone i hin).2 r hrc⟩
          · have hne : i ≠ r := fun e => by rw [e, hrc] at hnlast; cases hnlast
            have hnd : ¬ Done L r := fun hd => h2 (cl_done hC _ r cr hr (hC r cr hd hr) i (last_cl hrc h1 hne))
            exact ⟨fun hrd => (by have := (S.late r hrd hnd).2.2; rw [hrc] at this; cases this), fun hd => absurd hd hnd⟩
        have hcong := rdVal_congr (ops := ops) (h := h) look
        simp only [Same, hci] at hsame
        obtain ⟨v, hv, hvd⟩ : ∃ v, rdVal ops ci fE h = some v ∧ ∀ d, ci.dst = some d → v = fE d := by
          cases hd : ci.dst with
          | none => rw [hd] at hsame; obtain ⟨v, hv⟩ := hsame; exact ⟨v, hv, by simp⟩
          | some d => rw [hd] at hsame; exact ⟨_, hsame, by intro d' hd'; injection hd' with hd'; rw [hd']⟩
        refine go_sound (K := fun f' h' => f' = fS.put ci.dst v ∧ h' = h) (Kp := fun _ _ _ => False) (S.libB hL) hl hcs hoi hci (rdVal_go hrd2 (by rw [hcong]; exact hv) ⟨rfl, rfl⟩) S.rel S.fr ?_ (by rintro _ _ _ _ _ _ _ hq; exact hq.elim)
        rintro f' h' g' y w' ⟨rfl, rfl⟩ R' Fr' ag le
        refine ih _ rest done c _ fE h' g' w' _ B D hL' hC' hok hdone (S.next ht hC hLs hci h2 (fun r => ⟨.inr, fun hr => hr.elim (fun e => e ▸ hin) id⟩) rfl ⟨fun _ _ => rfl, fun t hd => (hvd t hd).symm⟩ R' Fr' ag le (fun t hd => put_tmps_ne (by rw [hdst]; exact hd)) (fun r hr hnL _ => S.late r hr hnL)) (S.nextS hS ht hC hci h2 (fun _ _ => rfl) (fun t hd => put_tmps_ne (by rw [hdst]; exact hd))) ha hf' (ag0.trans ag le0) (by omega)
      · by_cases hil : i ∈ lt
        · -- what may come late
          have feds : ∀ p cp, ops[p]? = some cp → isPend ops lt p = true → (∀ j ∈ cl ops ops.length p, Done L j) → ∀ t ∈ cp.op.tms, ∀ r cr, ops[r]? = some cr → cr.dst = some t → r ∈ done ∧ Done L r := by
            intro p cp hcp hpp hpL t htm r cr hr hd
            have hrc := (pend_looks hpp hcp).2.2.2 t htm r cr hr hd
            have hrL := hpL r hrc
            refine ⟨?_, hrL⟩
            obtain ⟨_, _, z3, _⟩ := pend_looks hpp hcp
            rcases S.sub r hrL with q | ⟨p', hp', rfl⟩ | q
            · exact q
            · have h7 := (S.isB p' hp').2.2
              simp only [isPend, Bool.and_eq_true] at h7
              exact absurd hd (z3 t htm _ (by simpa using h7.1) cr hr)
            · exact absurd hd (z3 t htm _ (isStr_some (S.isD r q).2.2).1 cr hr)
          have hfed : ∀ p cp, ops[p]? = some cp → isPend ops lt p = true → (∀ j ∈ cl ops ops.length p, Done L j) → fedBy ops done cp.op = true := by
            intro p cp hcp hpp hpL
            simp only [fedBy, List.all_eq_true]
            intro t htm j hj
            cases hcj : ops[j]? with
            | none => rfl
            | some cj =>
              simp only [Bool.or_eq_true, bne_iff_ne, ne_eq]
              by_cases hd : cj.dst = some t
              · exact .inr (by simpa using (feds p cp hcp hpp hpL t htm j cj hcj hd).1)
              · exact .inl hd
          have hlok : lateOK ops lt done fE = true := by
            cases rest with
            | nil =>
              simp only [okPerm, Bool.and_eq_true, List.all_eq_true] at hok
              exact absurd (by simpa using hok.1 i (by simpa using h1)) hin
            | cons k rest => exact ha.1
          have hlok1 := hlok
          simp only [lateOK, List.all_eq_true] at hlok1
          have hlok1 := hlok1 i hil
          simp only [hci, Bool.or_eq_true] at hlok1
          have hlok1 := hlok1.resolve_left (by simpa using hin)
          have hd : ∀ t, ci.dst = some t → t < nt.n := by
            intro t ht
            have y3 := hck
            simp only [chkCI, Bool.and_eq_true, beq_iff_eq] at y3
            have y3 := y3.1.1.2
            rw [ht] at y3; simpa using y3
          have hwant : ci.guard = none → Region.wanted (os.toList[i]'(by omega)) (yielded os a.tmps) = true := by
            intro hg
            have y3 := hck
            simp only [chkCI, Bool.and_eq_true, beq_iff_eq] at y3
            unfold Region.wanted; rw [y3.1.2, hg]
          rcases hlt i hil with hpi | hsi
          · -- a new block
            obtain ⟨z1, z2, z3, _⟩ := pend_looks hpi hci
            have hb0 : b2sOf ci.op = none := by
              generalize ci.op = op at z1
              cases op <;> simp [pendOp] at z1 <;> rfl
            rw [hb0] at hlok1
            simp only [hfed i ci hci hpi hclL, Bool.not_true, Bool.false_or] at hlok1
            obtain ⟨⟨ty, tg, r, mk⟩, hrow⟩ := Option.isSome_iff_exists.1 hlok1
            have hrowS : pendRow ci.op fS = some (ty, tg, r, mk) := by
              rw [← hrow]
              refine pendRow_congr fun t htm => S.agree t fun r' cr hr hd => ?_
              have := feds i ci hci hpi hclL t htm r' cr hr hd
              exact ⟨fun _ => this.2, fun _ => this.1⟩
            have hwant := hwant z2
            have hck2 := hck
            simp only [chkCI, Bool.and_eq_true, beq_iff_eq] at hck2
            obtain ⟨⟨⟨⟨y1, y2⟩, y3⟩, y4⟩, y5⟩ := hck2
            obtain ⟨C, e, κ, x, x1, x2, x3, x4⟩ := pend_run S.rel S.fr y1 hrowS
            unfold wpOp
            rw [hoi]
            simp only [hwant, if_true]
            refine .inl ?_
            unfold Oper.wp
            rw [x1]
            simp only [Oper.upon]
            rw [y2]
            have hksz : c.W.heap.size ≤ w.heap.size := S.rel.bel.size
            have hlow0 : c0.W.heap.size ≤ w.heap.size := Nat.le_trans S.kept.size hksz
            have hwsz : (w.alloc (.cells C e)).heap.size = w.heap.size + 1 := Array.size_push _
            let c2 : Base := ⟨w.alloc (.cells C e), fun j => c.S j ∨ j = w.heap.size, fun j => c.Z j ∨ j = w.heap.size,
              fun j hj => hj.elim (fun hj => by have := c.lt j hj; omega) (fun hj => by omega), fun j hj => hj.elim (fun hj => .inl (c.zs j hj)) .inr⟩
            have hkw : Kept c0 w := S.kept.trans S.rel.bel fun j hj => (S.cS j).2 (.inl hj)
            have hBlt : ∀ p ∈ B, p.2 < w.heap.size := fun p hp => by have := c.lt _ ((S.cS p.2).2 (.inr ⟨p, hp, rfl⟩)); omega
            refine ih _ rest done c2 (fS.put ci.dst .bot) fE h g _ _ ((i, w.heap.size) :: B) D hL' hC' hok hdone ⟨hkw.alloc _, ?_, ?_, ?_, S.rel.hide _ rfl (fun _ h => h) (fun _ h => h), S.fr.put ci.dst hd (by simp [VRel]), ?_, ?_, ?_, ?_, ?_, ?_, ?_, ?_⟩ ?_ ha hf' ag0 le0
            · intro j
              show (c.S j ∨ j = w.heap.size) ↔ _
              rw [S.cS]
              simp only [List.mem_cons, exists_eq_or_imp]
              constructor
              · rintro ((q | q) | q)
                · exact .inl q
                · exact .inr (.inr q)
                · exact .inr (.inl q.symm)
              · rintro (q | q | q)
                · exact .inl (.inl q)
                · exact .inr q.symm
                · exact .inl (.inr q)
            · intro j
              show (c.Z j ∨ j = w.heap.size) ↔ _
              rw [S.cZ]
              simp only [List.mem_cons, exists_eq_or_imp]
              constructor
              · rintro ((q | q) | q)
                · exact .inl q
                · exact .inr (.inr q)
                · exact .inr (.inl q.symm)
              · rintro (q | q | q)
                · exact .inl (.inl q)
                · exact .inr q.symm
                · exact .inl (.inr q)
            · intro p hp
              rcases List.mem_cons.1 hp with rfl | hp
              · exact hlow0
              · exact S.lo p hp
            · intro p hp
              rcases List.mem_cons.1 hp with rfl | hp
              · refine ⟨ci, ty, tg, r, mk, C, e, κ, hci, hrow, heap_alloc_new w _, x2, x3, fun g' N' b hb hi hk t htd => ?_⟩
                have htn := hd t htd
                have : ((a.put ci.dst x).tmps.getD t undef) = x := by
                  rw [htd]
                  have hs2 : t < a.tmps.size := by rw [S.fr.size]; exact htn
                  simp [Act.put, Array.getD, hs2]
                rw [this]
                exact x4 g' N' b hb hi hk
              · refine (S.pend p hp).mono (Agree.refl _ _) (Nat.le_refl _) (fun _ _ _ _ => rfl) ?_ ?_
                · intro cp t hcp htd
                  refine put_tmps_ne fun hdd => ?_
                  have hpi := uniq_of ht hci hcp hdd htd
                  have := (S.isB p hp).1
                  rw [hpi] at this
                  exact h2 this
                · show (w.alloc (.cells C e)).heap[p.2]? = _
                  rw [heap_alloc_old w _ (hBlt p hp)]
                  exact S.rel.bel.block _ ((S.cS _).2 (.inr ⟨p, hp, rfl⟩))
            · intro p hp
              rcases List.mem_cons.1 hp with rfl | hp
              · exact ⟨(done_set hs).2 (.inl rfl), hin, hpi⟩
              · obtain ⟨q1, q2, q3⟩ := S.isB p hp
                exact ⟨(done_set hs).2 (.inr q1), q2, q3⟩
            · intro p hp q hq heq
              rcases List.mem_cons.1 hp with rfl | hp <;> rcases List.mem_cons.1 hq with rfl | hq
              · rfl
              · have := hBlt q hq; simp only at heq; omega
              · have := hBlt p hp; simp only at heq; omega
              · exact S.uni p hp q hq heq
            · intro p hp q hq heq
              rcases List.mem_cons.1 hp with rfl | hp <;> rcases List.mem_cons.1 hq with rfl | hq
              · rfl
              · have q1 := (S.isB q hq).1
                simp only at heq
                rw [← heq] at q1
                exact absurd q1 h2
              · have q1 := (S.isB p hp).1
                simp only at heq
                rw [heq] at q1
                exact absurd q1 h2
              · exact S.uni1 p hp q hq heq
            · intro r' hr'
              obtain ⟨q1, q2, q3⟩ := S.isD r' hr'
              exact ⟨(done_set hs).2 (.inr q1), q2, q3⟩
            · intro j hj
              rcases (done_set hs).1 hj with rfl | hj
              · exact .inr (.inl ⟨_, List.mem_cons_self .., rfl⟩)
              · rcases S.sub j hj with q | ⟨p, hp, q⟩ | q
                · exact .inl q
                · exact .inr (.inl ⟨p, List.mem_cons_of_mem _ hp, q⟩)
                · exact .inr (.inr q)
            · intro r' hr hnL
              exact S.late r' hr fun hd => hnL ((done_set hs).2 (.inr hd))
            · intro t hcond
              have hdt : ci.dst ≠ some t := fun hd => hin ((hcond i ci hci hd).2 ((done_set hs).2 (.inl rfl)))
              rw [put_ne hdt]
              refine S.agree t fun r' cr hr hdr => ?_
              have hri : r' ≠ i := fun e => by subst e; rw [hci] at hr; injection hr with hr; exact hdt (by rw [hr]; exact hdr)
              have := hcond r' cr hr hdr
              rw [done_set hs] at this
              simpa [hri] using this
            · intro r' hr'
              obtain ⟨cr2, t2, p2, cp2, l2, len2, w1, w2, w3, w4, w5, ⟨q, hq, rfl⟩, w7, w8, w9⟩ := (S.nextS (fE2 := fE) (a2 := a.put ci.dst x) hS ht hC hci h2 (fun _ _ => rfl) (fun t hd => put_tmps_ne hd) r' hr').ex
              exact ⟨cr2, t2, q.1, cp2, l2, len2, w1, w2, w3, w4, w5, ⟨q, List.mem_cons_of_mem _ hq, rfl⟩, w7, w8, w9⟩
          · -- the text of a new slice
            obtain ⟨_, cr, t, p, cp, len, e1, e2, e3, e4, e5, e6, e7, hpcl⟩ := isStr_some hsi
            rw [hci] at e1; injection e1 with e1; subst e1
            have hpL := hclL p hpcl
            have hpcl2 : ∀ j ∈ cl ops ops.length p, Done L j := cl_done hC _ p cp e5 (hC p cp hpL e5)
            have hpend : p ∉ done → isPend ops lt p = true := by
              intro hpd
              rcases hlt p e4 with q | q
              · exact q
              · obtain ⟨_, cr', t', p', cp', len', f1, f2, f3, f4, f5, f6, f7, _⟩ := isStr_some q
                rw [e5] at f1; injection f1 with f1; subst f1
                rw [(bsl_pend e7).2] at f3; cases f3
            by_cases hpd : p ∈ done
            · -- the slice is there: the text is next
              obtain ⟨rest', rfl⟩ := adj ht hci hsi e3 e5 e6 rest done hok hin hpd
              obtain ⟨y1, y2, y3, y4, y5⟩ := okPerm_cons hok
              have look : ∀ t ∈ ci.looks ops, fS t = fE t := by
                intro t htm
                refine S.agree t fun r cr hr hd => ?_
                rcases looks_cl ht hci hr hd htm with hrc | hrc
                · exact ⟨fun _ => hclL r hrc, fun _ => y3 r hrc⟩
                · exact nolast done hdone hin r cr hr hrc
              have hdone2 := hdone_cons (k := i) h1 y3 hdone
              obtain ⟨_, ha⟩ := ha
              have hrd : rdOnly ci.op = true := by rw [b2sOf_op e3]; rfl
              simp only [hci, hrd, if_true] at ha
              split at ha
              · rename_i v hv
                have hcong := rdVal_congr (ops := ops) (h := h) look
                have hfE : (∀ t, ci.dst ≠ some t → (fE.put ci.dst v) t = fE t) ∧ ∀ t, ci.dst = some t → (fE.put ci.dst v) t = v := ⟨fun t hd => put_ne hd, fun t hd => by rw [hd, put_eq]⟩
                refine go_sound (K := fun f' h' => f' = fS.put ci.dst v ∧ h' = h) (Kp := fun _ _ _ => False) (S.libB hL) hl hcs hoi hci (rdVal_go hrd (by rw [hcong]; exact hv) ⟨rfl, rfl⟩) S.rel S.fr ?_ (by rintro _ _ _ _ _ _ _ hq; exact hq.elim)
                rintro f' h' g' y w' ⟨rfl, rfl⟩ R' Fr' ag le
                refine ih _ rest' (i :: done) c _ _ h' g' w' _ B D hL' hC' y5 hdone2 (S.next ht hC hLs hci h2 (fun r => List.mem_cons) rfl hfE R' Fr' ag le (fun t hd => put_tmps_ne (by rw [hdst]; exact hd)) (fun r hr hnL hri => ?_)) (S.nextS hS ht hC hci h2 hfE.1 (fun t hd => put_tmps_ne (by rw [hdst]; exact hd))) ha hf' (ag0.trans ag le0) (by omega)
                obtain ⟨q1, q2, q3⟩ := S.late r hr hnL
                exact ⟨q1, same_put ht hci v (hdone r hr).1 (fun hc => y2 ((hdone r hr).2 i hc)) (hlastL r (hdone r hr).1 hnL hri) hri q2, q3⟩
              · exact ha.elim
            · -- the slice is to come
              have hpp := hpend hpd
              obtain ⟨q, hq, rfl⟩ : ∃ q ∈ B, q.1 = p := by
                rcases S.sub p hpL with q | q | q
                · exact absurd q hpd
                · exact q
                · obtain ⟨_, cr', t', p', cp', len', f1, f2, f3, f4, f5, f6, f7, _⟩ := isStr_some (S.isD p q).2.2
                  rw [e5] at f1; injection f1 with f1; subst f1
                  rw [(bsl_pend e7).2] at f3; cases f3
              obtain ⟨cp', ty, tg, r, mk, C, e, κ, x1, x2, x3, x4, x5, x6⟩ := (S.pend q hq).ex
              rw [e5] at x1; injection x1 with x1; subst x1
              rw [e3] at hlok1
              simp only [List.all_eq_true] at hlok1
              have hl1 := hlok1 q.1 e4
              simp only [e5, e6, bne_self_eq_false, hfed q.1 cp e5 hpp hpcl2, Bool.not_true, Bool.false_or] at hl1
              obtain ⟨l, hl2⟩ := Option.isSome_iff_exists.1 hl1
              have hl3 := hl2
              unfold pendStr at hl3
              rw [e7, x2] at hl3
              simp only at hl3
              obtain ⟨sz, z, ps, hop⟩ : ∃ sz z ps, cp.op = .bslice sz len z ps := by
                generalize cp.op = op at e7
                unfold bslOf at e7
                split at e7
                · injection e7 with e7; subst e7; exact ⟨_, _, _, rfl⟩
                · cases e7
              have hmk : ∀ n, mk n = .sl (some (n, 0)) sz len := by
                intro n
                rw [hop] at x2
                simp only [pendRow] at x2
                split at x2
                · split at x2
                  · simp only [Option.some.injEq, Prod.mk.injEq] at x2
                    rw [← x2.2.2.2]
                  · cases x2
                · cases x2
              have hv := x6 ⟨fun _ => q.2, fun _ => κ⟩ 1 0 (by omega) rfl rfl t e6
              rw [hmk] at hv
              simp only [VRel] at hv
              obtain ⟨_, cc, c1, c2, c3, c4⟩ := hv
              have hlen : len ≤ r.length := by
                rcases Nat.lt_or_ge r.length len with h6 | h6
                · exfalso
                  obtain ⟨C2, e2', fr2, o1, o2, o3, o4, o5⟩ := x4
                  -- a slice of one cell an element
                  have h7 := hck
                  have hcp := hcs q.1 (os.toList[q.1]'(by have := (List.getElem?_eq_some_iff.1 e5).1; omega)) cp (by simp) e5
                  simp only [chkCI, Bool.and_eq_true] at hcp
                  have hcp := hcp.1.1.1.1
                  rw [hop] at hcp x2
                  simp only [chk] at hcp
                  split at hcp
                  · simp only [Bool.and_eq_true, beq_iff_eq] at hcp
                    obtain ⟨_, hcp⟩ := hcp
                    split at hcp
                    · simp only [Bool.and_eq_true, beq_iff_eq, decide_eq_true_eq] at hcp
                      obtain ⟨⟨⟨⟨⟨_, _⟩, hzs⟩, hs0⟩, _⟩, _⟩ := hcp
                      simp only [pendRow] at x2
                      split at x2
                      · split at x2
                        · rename_i hfl
                          simp only [Option.some.injEq, Prod.mk.injEq] at x2
                          obtain ⟨_, _, rfl, _⟩ := x2
                          have : ∀ (ps : List (Nat × List V)) (z r : List V), fillV z ps = some r → r.length = z.length := by
                            intro ps
                            induction ps with
                            | nil => intro z r hr; simp [fillV] at hr; rw [hr]
                            | cons p ps ih =>
                              intro z r hr
                              obtain ⟨off, vs⟩ := p
                              simp only [fillV] at hr
                              split at hr
                              · rw [ih _ _ hr]; simp [wr]; omega
                              · cases hr
                          have q2 := this _ _ _ hfl
                          simp [hzs] at q2
                          have : len ≤ len * sz := Nat.le_mul_of_pos_right _ hs0
                          omega
                        · cases x2
                      · cases x2
                    · cases hcp
                  · cases hcp
                · exact h6
              have hX : w.heap[q.2]? = some (.cells C e) := (S.rel.bel.block _ ((S.cS _).2 (.inr ⟨q, hq, rfl⟩))).trans x3
              have hck2 := hck
              simp only [chkCI, Bool.and_eq_true, beq_iff_eq] at hck2
              obtain ⟨⟨⟨⟨y1, y2⟩, y3⟩, y4⟩, y5⟩ := hck2
              have hrun := b2s_run (a := a) (w := w) (os.toList[i]'(by omega)) y1 e3 c4 hX x4 hlen hl3
              have hwant := hwant e2
              unfold wpOp
              rw [hoi]
              simp only [hwant, if_true]
              refine .inl ?_
              unfold Oper.wp
              rw [hrun]
              simp only [Oper.upon]
              rw [y2]
              have hfe : (∀ t, ci.dst ≠ some t → fE t = fE t) := fun _ _ => rfl
              refine ih _ rest done c (fS.put ci.dst .bot) fE h g _ _ B (i :: D) hL' hC' hok hdone ⟨S.kept, S.cS, S.cZ, S.lo, S.rel, S.fr.put ci.dst hd (by simp [VRel]), ?_, ?_, S.uni, S.uni1, ?_, ?_, ?_, ?_⟩ ?_ ha hf' ag0 le0
              · intro p hp
                refine (S.pend p hp).mono (Agree.refl _ _) (Nat.le_refl _) (fun _ _ _ _ => rfl) ?_ rfl
                intro cp2 t2 hcp2 htd
                refine put_tmps_ne fun hdd => ?_
                have hpi := uniq_of ht hci hcp2 hdd htd
                have := (S.isB p hp).1
                rw [hpi] at this
                exact h2 this
              · intro p hp
                obtain ⟨q1, q2, q3⟩ := S.isB p hp
                exact ⟨(done_set hs).2 (.inr q1), q2, q3⟩
              · intro r' hr'
                rcases List.mem_cons.1 hr' with rfl | hr'
                · exact ⟨(done_set hs).2 (.inl rfl), hin, hsi⟩
                · obtain ⟨q1, q2, q3⟩ := S.isD r' hr'
                  exact ⟨(done_set hs).2 (.inr q1), q2, q3⟩
              · intro j hj
                rcases (done_set hs).1 hj with rfl | hj
                · exact .inr (.inr (List.mem_cons_self ..))
                · rcases S.sub j hj with q1 | q1 | q1
                  · exact .inl q1
                  · exact .inr (.inl q1)
                  · exact .inr (.inr (List.mem_cons_of_mem _ q1))
              · intro r' hr hnL
                exact S.late r' hr fun hd => hnL ((done_set hs).2 (.inr hd))
              · intro n hcond
                have hdt : ci.dst ≠ some n := fun hd => hin ((hcond i ci hci hd).2 ((done_set hs).2 (.inl rfl)))
                rw [put_ne hdt]
                refine S.agree n fun r' cr hr hdr => ?_
                have hri : r' ≠ i := fun e => by subst e; rw [hci] at hr; injection hr with hr; exact hdt (by rw [hr]; exact hdr)
                have := hcond r' cr hr hdr
                rw [done_set hs] at this
                simpa [hri] using this
              · intro r' hr'
                rcases List.mem_cons.1 hr' with rfl | hr'
                · refine ⟨ci, t, q.1, cp, l, len, hci, e3, e2, e5, e6, ⟨q, hq, rfl⟩, e7, hl2, fun d hdd => ?_⟩
                  rw [hdd]
                  have hs2 : d < a.tmps.size := by rw [S.fr.size]; exact hd d hdd
                  simp [Act.put, Array.getD, hs2]
                · exact S.nextS (fE2 := fE) hS ht hC hci h2 (fun _ _ => rfl) (fun t hd => put_tmps_ne hd) r' hr'
        · -- in its place
          obtain ⟨post, done', c2, g2, h2', fS2, fE2, B2, D2, hok', hdone', S2, hS2, ha', ag2, le2⟩ := advance ht hC h1 hil hclL h2 rest.length rest done c g h fS fE B D (Nat.le_refl _) hok hdone S hS ha hin
          obtain ⟨y1, y2, y3, y4, y5⟩ := okPerm_cons hok'
          have look : ∀ t ∈ ci.looks ops, fS2 t = fE2 t := by
            intro t htm
            refine S2.agree t fun r cr hr hd => ?_
            rcases looks_cl ht hci hr hd htm with hrc | hrc
            · exact ⟨fun _ => hclL r hrc, fun _ => y3 r hrc⟩
            · exact nolast done' hdone' y2 r cr hr hrc
          have hdone2 := hdone_cons (k := i) h1 y3 hdone'
          obtain ⟨_, ha'⟩ := ha'
          have hd2 : ∀ r, r ∈ i :: done' ↔ r = i ∨ r ∈ done' := fun r => List.mem_cons
          have hfE : ∀ v, (∀ t, ci.dst ≠ some t → (fE2.put ci.dst v) t = fE2 t) ∧ ∀ t, ci.dst = some t → (fE2.put ci.dst v) t = v :=
            fun v => ⟨fun t hd => put_ne hd, fun t hd => by rw [hd, put_eq]⟩
          by_cases hrd : rdOnly ci.op = true
          · simp only [hci, hrd, if_true] at ha'
            split at ha'
            · rename_i v hv
              have hcong := rdVal_congr (ops := ops) (h := h2') look
              refine go_sound (K := fun f' h' => f' = fS2.put ci.dst v ∧ h' = h2') (Kp := fun _ _ _ => False) (S2.libB hL) hl hcs hoi hci (rdVal_go hrd (by rw [hcong]; exact hv) ⟨rfl, rfl⟩) S2.rel S2.fr ?_ (by rintro _ _ _ _ _ _ _ hq; exact hq.elim)
              rintro f' h' g' y w' ⟨rfl, rfl⟩ R' Fr' ag le
              refine ih _ post (i :: done') c2 _ _ h' g' w' _ B2 D2 hL' hC' y5 hdone2 (S2.next ht hC hLs hci h2 hd2 rfl (hfE v) R' Fr' ag le (fun t hd => put_tmps_ne (by rw [hdst]; exact hd)) (fun r hr hnL hri => ?_)) (S2.nextS hS2 ht hC hci h2 (hfE v).1 (fun t hd => put_tmps_ne (by rw [hdst]; exact hd))) ha' hf' ((ag0.trans ag2 le0).trans ag (by omega)) (by omega)
              obtain ⟨q1, q2, q3⟩ := S2.late r hr hnL
              exact ⟨q1, same_put ht hci v (hdone' r hr).1 (fun hc => y2 ((hdone' r hr).2 i hc)) (hlastL r (hdone' r hr).1 hnL hri) hri q2, q3⟩
            · exact ha'.elim
          · simp only [hci, hrd, if_false] at ha'
            refine go_sound (K := fun f' h' => ∃ v, f' = fS2.put ci.dst v ∧ (∀ r ∈ obls ops i done', Same ops (fE2.put ci.dst v) h' r) ∧ aDraw P ops lt (Q .normal) (fun v _ h => ∀ f, Q (.panic v) f h) post (i :: done') (fE2.put ci.dst v) h') (Kp := fun v _ h => ∀ f, Q (.panic v) f h) (S2.libB hL) hl hcs hoi hci (aGo_congr look (fun v h' hh => ⟨v, rfl, hh⟩) (fun v h' hh => hh) ha') S2.rel S2.fr ?_ ?_
            · rintro f' h' g' y w' ⟨v, rfl, hob, ha2⟩ R' Fr' ag le
              refine ih _ post (i :: done') c2 _ _ h' g' w' _ B2 D2 hL' hC' y5 hdone2 (S2.next ht hC hLs hci h2 hd2 rfl (hfE v) R' Fr' ag le (fun t hd => put_tmps_ne (by rw [hdst]; exact hd)) (fun r hr hnL hri => ?_)) (S2.nextS hS2 ht hC hci h2 (hfE v).1 (fun t hd => put_tmps_ne (by rw [hdst]; exact hd))) ha2 hf' ((ag0.trans ag2 le0).trans ag (by omega)) (by omega)
              obtain ⟨q1, q2, q3⟩ := S2.late r hr hnL
              refine ⟨q1, hob r ?_, q3⟩
              unfold obls
              rw [List.mem_filter]
              refine ⟨hr, ?_⟩
              have hr' : ops[r]? = some (ops[r]'((hdone' r hr).1)) := by simp [(hdone' r hr).1]
              simp only [isRd, hr'] at q1
              simp only [hr', q1, Bool.true_and, Bool.not_eq_true']
              have : r ∉ cl ops ops.length i := fun hc => hnL (hclL r hc)
              simpa using this
            · exact hpan S2.kept (fun j hj => (S2.cS j).2 (.inl hj)) (fun j hj => (S2.cZ j).2 (.inl hj)) (ag0.trans ag2 le0) (by omega)

theorem draw_sound (hL : LibB P c0) {os : Array Oper} (hl : os.toList.length = ops.length) (hcs : ∀ (i : Nat) (o : Oper) (ci : CI), os.toList[i]? = some o → ops[i]? = some ci → chkCI P nt.n true o ci = true) (ht : okTmps ops = true) {perm : List Nat} (hperm : okPerm ops lt perm [] = true) (Q : Ex → F → H → Prop) {g0 : G} {N0 : Nat} {f : F}
    (ha : aDraw P ops lt (Q .normal) (fun v _ h => ∀ f, Q (.panic v) f h) perm [] f h) (R : Rel c0 g h w) (Fr : FRel g h.next nt f a) (ag0 : Agree N0 g0 g) (le0 : N0 ≤ h.next) : wpAny P .any os (Reach c0 g0 N0 nt Q) ops.length (Array.replicate ops.length false) a w := by
  have nd : ∀ i, ¬ Done (Array.replicate ops.length false) i := by
    intro i; unfold Done; simp only [Array.getD_eq_getD_getElem?, Array.getElem?_replicate]; split <;> simp
  refine draw_sound_aux hL hl hcs ht hperm Q g0 N0 ops.length _ perm [] c0 f f h g w a [] [] (by simp) (fun i _ hd => absurd hd (nd i)) hperm (by simp) ⟨⟨rfl, rfl, rfl, Nat.le_refl _, fun _ _ => rfl⟩, by simp, by simp, by simp, R, Fr, by simp, by simp, by simp, by simp, by simp, fun i hd => absurd hd (nd i), by simp, fun _ _ => rfl⟩ (by simp) ha ?_ ag0 le0
  unfold undone
  have := List.length_filter_le (fun i => !(Array.replicate ops.length false).getD i false) (List.range ops.length)
  simpa using this
end
end Go.Ab

/-! Code: the weakest precondition over abstract states; that it is one of the model's. -/
set_option linter.unusedVariables false
set_option linter.unusedSimpArgs false
namespace Go.Ab
open Go.RowKit

/-- A frame of which these slots alone are known. -/
def frameOf : List Nat → List V → F
  | k :: ks, v :: vs => fun t => if t = k then v else frameOf ks vs t
  | _, _ => fun _ => .bot

theorem frameOf_map (ks : List Nat) (f : F) (t : Nat) : frameOf ks (ks.map f) t = f t ∨ frameOf ks (ks.map f) t = .bot := by
  induction ks with
  | nil => exact .inr rfl
  | cons k ks ih =>
    simp only [List.map_cons, frameOf]
    split
    · rename_i h; subst h; exact .inl rfl
    · exact ih

theorem FRel.keep {g : G} {N : Nat} {nt : NT} {f : F} {a : Act} (R : FRel g N nt f a) (ks : List Nat) : FRel g N nt (frameOf ks (ks.map f)) a :=
  ⟨R.size, R.defers, fun t => by
    rcases frameOf_map ks f t with h | h
    · rw [h]; exact R.val t
    · rw [h]; simp only [VRel]⟩

def awp (P : Program) [LibC P] : CC → (Ex → F → H → Prop) → F → H → Prop
  | .skip, Q, f, h => Q .normal f h
  | .region draw ops, Q, f, h => draw = false ∧ aOps P ops (Q .normal) (fun v => Q (.panic v)) ops f h
  | .regionP perm lt ops, Q, f, h => aDraw P ops lt (Q .normal) (fun v _ h => ∀ f, Q (.panic v) f h) perm [] f h
  | .seq a b, Q, f, h => awp P a (fun e f h => match e with
    | .normal => awp P b Q f h
    | e => Q e f h) f h
  | .cond x a b, Q, f, h => match rd f x with
    | .bool true => awp P a Q f h
    | .bool false => awp P b Q f h
    | _ => False
  | .block id b, Q, f, h => awp P b (fun e f h => match e with
    | .exit id' => if id' = id then Q .normal f h else Q (.exit id') f h
    | e => Q e f h) f h
  | .seqK ks a b, Q, f, h => ∃ J : List V → H → Prop, awp P a (fun e f h => match e with
    | .normal => J (ks.map f) h
    | e => Q e f h) f h ∧ ∀ vs h, J vs h → awp P b Q (frameOf ks vs) h
  | .loop ks b, Q, f, h => ∃ I : Nat → List V → H → Prop, (∃ n, I n (ks.map f) h) ∧ ∀ n vs h, I n vs h → awp P b (fun e f' h' => match e with
    | .normal => ∃ m, m < n ∧ I m (ks.map f') h'
    | e => Q e f' h') (frameOf ks vs) h
  | .exit id, Q, f, h => Q (.exit id) f h
  | .ret, Q, f, h => Q .ret f h
  | .scope b, Q, f, h => awp P b (fun e f h => match e with
    | .goto _ => False
    | e => Q e f h) f h
  | .scopeJ ks l b r, Q, f, h => ∃ I : Nat → List V → H → Prop, awp P b (fun e f h => match e with
      | .goto l' => l' = l ∧ ∃ n, I n (ks.map f) h
      | e => Q e f h) f h ∧ ∀ n vs h, I n vs h → awp P r (fun e f' h' => match e with
      | .goto l' => l' = l ∧ ∃ m, m < n ∧ I m (ks.map f') h'
      | e => Q e f' h') (frameOf ks vs) h
  | .goto l, Q, f, h => Q (.goto l) f h
  | .refuse, _, _, _ => False
  | .label _, Q, f, h => Q .normal f h

def chkC (P : Program) (nt : Nat) : Code → CC → Bool
  | .skip, .skip => true
  | .region _ ops draw, .region draw' cs => !draw && !draw' && chkCIs P nt false ops.toList cs
  | .region _ ops draw, .regionP perm lt cs => draw && chkCIs P nt true ops.toList cs && P.follows .mixedOrders && okTmps cs && okPerm cs lt perm []
  | .seq a b, .seq a' b' => chkC P nt a a' && chkC P nt b b'
  | .seq a b, .seqK _ a' b' => chkC P nt a a' && chkC P nt b b'
  | .cond x a b, .cond x' a' b' => chkX x x' && chkC P nt a a' && chkC P nt b b'
  | .block id b, .block id' b' => id == id' && chkC P nt b b'
  | .loop b, .loop _ b' => chkC P nt b b'
  | .exit id, .exit id' => id == id'
  | .ret, .ret => true
  | .scope b, .scope b' => chkC P nt b b'
  | .scope b, .scopeJ _ l b' r' => chkC P nt b b' && (match findLabel b l with
    | some r => chkC P nt r r'
    | none => false)
  | .goto l, .goto l' => l == l'
  | .refuse _, .refuse => true
  | .label l, .label l' => l == l'
  | _, _ => false

section
variable {P : Program} [LibC P] {c : Base} {nt : NT}

theorem awp_sound (hL : LibB P c) : ∀ (cc : CC) (co : Code), chkC P nt.n co cc = true → ∀ (Q : Ex → F → H → Prop) (f : F) (h : H), awp P cc Q f h → ∀ (g0 : G) (N0 : Nat) (g : G) (w : World) (a : Act), Rel c g h w → FRel g h.next nt f a → Agree N0 g0 g → N0 ≤ h.next →
    co.wp P (Reach c g0 N0 nt Q) a w
  | .skip, co, hc, Q, f, h, ho, g0, N0, g, w, a, R, Fr, ag0, le0 => by
    cases co <;> simp [chkC] at hc
    exact wp_skip ⟨.normal, f, h, g, ho, trivial, R, Fr, ag0, le0⟩
  | .region draw cs, co, hc, Q, f, h, ho, g0, N0, g, w, a, R, Fr, ag0, le0 => by
    cases co <;> simp [chkC] at hc
    rename_i id os draw'
    obtain ⟨⟨rfl, rfl⟩, h2⟩ := hc
    obtain ⟨hl, hcs⟩ := chkCIs_get h2
    simp only [awp] at ho
    have := ops_sound hL hl hcs Q g0 N0 cs 0 rfl f h ho.2 g w a R Fr ag0 le0
    refine wp_region ?_
    rw [List.range_eq_range']
    have e : os.size = cs.length := by simpa using hl
    rw [e]
    simpa using this
  | .regionP perm lt cs, co, hc, Q, f, h, ho, g0, N0, g, w, a, R, Fr, ag0, le0 => by
    cases co <;> simp [chkC] at hc
    rename_i id os draw
    obtain ⟨⟨⟨⟨rfl, h2⟩, h3⟩, h4⟩, h5⟩ := hc
    obtain ⟨hl, hcs⟩ := chkCIs_get h2
    simp only [awp] at ho
    refine wp_region_any h3 ?_
    have e : os.size = cs.length := by simpa using hl
    rw [e]
    exact draw_sound hL hl hcs h4 h5 Q ho R.drew Fr ag0 le0
  | .seq x y, co, hc, Q, f, h, ho, g0, N0, g, w, a, R, Fr, ag0, le0 => by
    cases co <;> simp [chkC] at hc
    rename_i x' y'
    simp only [awp] at ho
    refine wp_seq (wp_mono (awp_sound hL x x' hc.1 _ f h ho g0 N0 g w a R Fr ag0 le0) ?_)
    rintro e a1 w1 ⟨ex, f1, h1, g1, q, er, R1, Fr1, ag1, le1⟩
    cases ex <;> cases e <;> simp only [ExRel] at er
    · exact awp_sound hL y y' hc.2 Q f1 h1 q g0 N0 g1 w1 a1 R1 Fr1 ag1 le1
    · exact ⟨_, f1, h1, g1, q, er, R1, Fr1, ag1, le1⟩
    · exact ⟨_, f1, h1, g1, q, er, R1, Fr1, ag1, le1⟩
    · exact ⟨_, f1, h1, g1, q, er, R1, Fr1, ag1, le1⟩
    · exact ⟨_, f1, h1, g1, q, er, R1, Fr1, ag1, le1⟩
  | .seqK ks x y, co, hc, Q, f, h, ho, g0, N0, g, w, a, R, Fr, ag0, le0 => by
    cases co <;> simp [chkC] at hc
    rename_i x' y'
    simp only [awp] at ho
    obtain ⟨J, ho, hJ⟩ := ho
    refine wp_seq (wp_mono (awp_sound hL x x' hc.1 _ f h ho g0 N0 g w a R Fr ag0 le0) ?_)
    rintro e a1 w1 ⟨ex, f1, h1, g1, q, er, R1, Fr1, ag1, le1⟩
    cases ex <;> cases e <;> simp only [ExRel] at er
    · exact awp_sound hL y y' hc.2 Q _ h1 (hJ _ _ q) g0 N0 g1 w1 a1 R1 (Fr1.keep ks) ag1 le1
    · exact ⟨_, f1, h1, g1, q, er, R1, Fr1, ag1, le1⟩
    · exact ⟨_, f1, h1, g1, q, er, R1, Fr1, ag1, le1⟩
    · exact ⟨_, f1, h1, g1, q, er, R1, Fr1, ag1, le1⟩
    · exact ⟨_, f1, h1, g1, q, er, R1, Fr1, ag1, le1⟩
  | .cond x b1 b2, co, hc, Q, f, h, ho, g0, N0, g, w, a, R, Fr, ag0, le0 => by
    cases co <;> simp [chkC] at hc
    obtain ⟨⟨h1, h2⟩, h3⟩ := hc
    simp only [awp] at ho
    have e := chkX_rel Fr h1
    split at ho
    · rename_i hx
      rw [hx] at e; simp only [VRel] at e
      exact wp_cond_true e (awp_sound hL b1 _ h2 Q f h ho g0 N0 g w a R Fr ag0 le0)
    · rename_i hx
      rw [hx] at e; simp only [VRel] at e
      exact wp_cond_false e (awp_sound hL b2 _ h3 Q f h ho g0 N0 g w a R Fr ag0 le0)
    · exact ho.elim
  | .block id b, co, hc, Q, f, h, ho, g0, N0, g, w, a, R, Fr, ag0, le0 => by
    cases co <;> simp [chkC] at hc
    obtain ⟨rfl, h2⟩ := hc
    simp only [awp] at ho
    refine wp_block (wp_mono (awp_sound hL b _ h2 _ f h ho g0 N0 g w a R Fr ag0 le0) ?_)
    rintro e a1 w1 ⟨ex, f1, h1, g1, q, er, R1, Fr1, ag1, le1⟩
    cases ex <;> cases e <;> simp only [ExRel] at er
    · exact ⟨.normal, f1, h1, g1, q, trivial, R1, Fr1, ag1, le1⟩
    · subst er
      simp only [Exit.inBlock]
      split
      · rename_i hid; simp only [hid, if_true] at q
        exact ⟨.normal, f1, h1, g1, q, trivial, R1, Fr1, ag1, le1⟩
      · rename_i hid; simp only [hid, if_false] at q
        exact ⟨_, f1, h1, g1, q, rfl, R1, Fr1, ag1, le1⟩
    · exact ⟨_, f1, h1, g1, q, er, R1, Fr1, ag1, le1⟩
    · exact ⟨_, f1, h1, g1, q, er, R1, Fr1, ag1, le1⟩
    · exact ⟨_, f1, h1, g1, q, er, R1, Fr1, ag1, le1⟩
  | .loop ks b, co, hc, Q, f, h, ho, g0, N0, g, w, a, R, Fr, ag0, le0 => by
    cases co <;> simp [chkC] at hc
    simp only [awp] at ho
    obtain ⟨I, ⟨n, hI⟩, hround⟩ := ho
    let J : Nat → Act → World → Prop := fun n a w => ∃ vs h g', I n vs h ∧ Rel c g' h w ∧ FRel g' h.next nt (frameOf ks vs) a ∧ Agree N0 g0 g' ∧ N0 ≤ h.next
    have hmin : ∀ a w, (∃ n, J n a w) → ∃ n, J n a w ∧ ∀ m, m < n → ¬ J m a w := by
      intro a w ⟨n, hn⟩
      induction n using Nat.strongRecOn with
      | _ n ih =>
        by_cases hex : ∃ m, m < n ∧ J m a w
        · obtain ⟨m, hm, hj⟩ := hex; exact ih m hm hj
        · exact ⟨n, hn, fun m hm hj => hex ⟨m, hm, hj⟩⟩
    let μ : Act → World → Nat := fun a w => @dite _ (∃ n, J n a w) (Classical.propDecidable _) (fun hx => Classical.choose (hmin a w hx)) (fun _ => 0)
    have hμ : ∀ a w n, J n a w → J (μ a w) a w ∧ μ a w ≤ n := by
      intro a w n hj
      have hx : ∃ n, J n a w := ⟨n, hj⟩
      have hs := Classical.choose_spec (hmin a w hx)
      have e : μ a w = Classical.choose (hmin a w hx) := by simp only [μ]; rw [dif_pos hx]
      rw [e]
      refine ⟨hs.1, ?_⟩
      rcases Nat.lt_or_ge n (Classical.choose (hmin a w hx)) with h1 | h1
      · exact absurd hj (hs.2 n h1)
      · exact h1
    refine wp_loop (fun a w => ∃ n, J n a w) μ ⟨n, _, h, g, hI, R, Fr.keep ks, ag0, le0⟩ ?_
    rintro a1 w1 ⟨n1, hj1⟩
    obtain ⟨⟨f1, h1, g1, hI1, R1, Fr1, ag1, le1⟩, _⟩ := hμ a1 w1 n1 hj1
    refine wp_mono (awp_sound hL b _ hc _ _ h1 (hround _ f1 h1 hI1) g0 N0 g1 w1 a1 R1 Fr1 ag1 le1) ?_
    rintro e a2 w2 ⟨ex, f2, h2, g2, q, er, R2, Fr2, ag2, le2⟩
    cases ex <;> cases e <;> simp only [ExRel] at er
    · obtain ⟨m, hm, hIm⟩ := q
      have hjm : J m a2 w2 := ⟨_, h2, g2, hIm, R2, Fr2.keep ks, ag2, le2⟩
      exact ⟨⟨m, hjm⟩, Nat.lt_of_le_of_lt (hμ a2 w2 m hjm).2 hm⟩
    · exact ⟨_, f2, h2, g2, q, er, R2, Fr2, ag2, le2⟩
    · exact ⟨_, f2, h2, g2, q, er, R2, Fr2, ag2, le2⟩
    · exact ⟨_, f2, h2, g2, q, er, R2, Fr2, ag2, le2⟩
    · exact ⟨_, f2, h2, g2, q, er, R2, Fr2, ag2, le2⟩
  | .exit id, co, hc, Q, f, h, ho, g0, N0, g, w, a, R, Fr, ag0, le0 => by
    cases co <;> simp [chkC] at hc
    subst hc
    exact wp_exit ⟨.exit _, f, h, g, ho, rfl, R, Fr, ag0, le0⟩
  | .ret, co, hc, Q, f, h, ho, g0, N0, g, w, a, R, Fr, ag0, le0 => by
    cases co <;> simp [chkC] at hc
    exact wp_ret ⟨.ret, f, h, g, ho, trivial, R, Fr, ag0, le0⟩
  | .scope b, co, hc, Q, f, h, ho, g0, N0, g, w, a, R, Fr, ag0, le0 => by
    cases co <;> simp [chkC] at hc
    simp only [awp] at ho
    refine wp_scope_straight (wp_mono (awp_sound hL b _ hc _ f h ho g0 N0 g w a R Fr ag0 le0) ?_)
    rintro e a1 w1 ⟨ex, f1, h1, g1, q, er, R1, Fr1, ag1, le1⟩
    cases ex <;> cases e <;> simp only [ExRel] at er
    · exact ⟨.normal, f1, h1, g1, q, trivial, R1, Fr1, ag1, le1⟩
    · exact ⟨_, f1, h1, g1, q, er, R1, Fr1, ag1, le1⟩
    · exact q.elim
    · exact ⟨_, f1, h1, g1, q, trivial, R1, Fr1, ag1, le1⟩
    · exact ⟨_, f1, h1, g1, q, er, R1, Fr1, ag1, le1⟩
  | .refuse, co, hc, Q, f, h, ho, g0, N0, g, w, a, R, Fr, ag0, le0 => ho.elim
  | .goto l, co, hc, Q, f, h, ho, g0, N0, g, w, a, R, Fr, ag0, le0 => by
    cases co <;> simp [chkC] at hc
    subst hc
    exact wp_goto ⟨.goto _, f, h, g, ho, rfl, R, Fr, ag0, le0⟩
  | .scopeJ ks l b r, co, hc, Q, f, h, ho, g0, N0, g, w, a, R, Fr, ag0, le0 => by
    cases co <;> simp [chkC] at hc
    rename_i co
    obtain ⟨hc1, hc2⟩ := hc
    split at hc2
    · rename_i rc hrc
      simp only [awp] at ho
      obtain ⟨I, hfirst, hround⟩ := ho
      let J : Nat → Act → World → Prop := fun n a w => ∃ vs h g', I n vs h ∧ Rel c g' h w ∧ FRel g' h.next nt (frameOf ks vs) a ∧ Agree N0 g0 g' ∧ N0 ≤ h.next
      have hmin : ∀ a w, (∃ n, J n a w) → ∃ n, J n a w ∧ ∀ m, m < n → ¬ J m a w := by
        intro a w ⟨n, hn⟩
        induction n using Nat.strongRecOn with
        | _ n ih =>
          by_cases hex : ∃ m, m < n ∧ J m a w
          · obtain ⟨m, hm, hj⟩ := hex; exact ih m hm hj
          · exact ⟨n, hn, fun m hm hj => hex ⟨m, hm, hj⟩⟩
      let μ : Act → World → Nat := fun a w => @dite _ (∃ n, J n a w) (Classical.propDecidable _) (fun hx => Classical.choose (hmin a w hx)) (fun _ => 0)
      have hμ : ∀ a w n, J n a w → J (μ a w) a w ∧ μ a w ≤ n := by
        intro a w n hj
        have hx : ∃ n, J n a w := ⟨n, hj⟩
        have hs := Classical.choose_spec (hmin a w hx)
        have e : μ a w = Classical.choose (hmin a w hx) := by simp only [μ]; rw [dif_pos hx]
        rw [e]
        refine ⟨hs.1, ?_⟩
        rcases Nat.lt_or_ge n (Classical.choose (hmin a w hx)) with h1 | h1
        · exact absurd hj (hs.2 n h1)
        · exact h1
      refine wp_scope_jumps l (fun a w => ∃ n, J n a w) μ hrc ?_ ?_
      · refine wp_mono (awp_sound hL b _ hc1 _ f h hfirst g0 N0 g w a R Fr ag0 le0) ?_
        rintro e a2 w2 ⟨ex, f2, h2, g2, q, er, R2, Fr2, ag2, le2⟩
        cases ex <;> cases e <;> simp only [ExRel] at er
        · exact ⟨.normal, f2, h2, g2, q, er, R2, Fr2, ag2, le2⟩
        · exact ⟨_, f2, h2, g2, q, er, R2, Fr2, ag2, le2⟩
        · obtain ⟨rfl, n, hI⟩ := q
          subst er
          exact ⟨rfl, n, _, h2, g2, hI, R2, Fr2.keep ks, ag2, le2⟩
        · exact ⟨_, f2, h2, g2, q, er, R2, Fr2, ag2, le2⟩
        · exact ⟨_, f2, h2, g2, q, er, R2, Fr2, ag2, le2⟩
      · rintro a1 w1 ⟨n1, hj1⟩
        obtain ⟨⟨f1, h1, g1, hI1, R1, Fr1, ag1, le1⟩, _⟩ := hμ a1 w1 n1 hj1
        refine wp_mono (awp_sound hL r _ hc2 _ _ h1 (hround _ f1 h1 hI1) g0 N0 g1 w1 a1 R1 Fr1 ag1 le1) ?_
        rintro e a2 w2 ⟨ex, f2, h2, g2, q, er, R2, Fr2, ag2, le2⟩
        cases ex <;> cases e <;> simp only [ExRel] at er
        · exact ⟨.normal, f2, h2, g2, q, er, R2, Fr2, ag2, le2⟩
        · exact ⟨_, f2, h2, g2, q, er, R2, Fr2, ag2, le2⟩
        · obtain ⟨rfl, m, hm, hIm⟩ := q
          subst er
          have hjm : J m a2 w2 := ⟨_, h2, g2, hIm, R2, Fr2.keep ks, ag2, le2⟩
          exact ⟨rfl, ⟨m, hjm⟩, Nat.lt_of_le_of_lt (hμ a2 w2 m hjm).2 hm⟩
        · exact ⟨_, f2, h2, g2, q, er, R2, Fr2, ag2, le2⟩
        · exact ⟨_, f2, h2, g2, q, er, R2, Fr2, ag2, le2⟩
    · cases hc2
  | .label l, co, hc, Q, f, h, ho, g0, N0, g, w, a, R, Fr, ag0, le0 => by
    cases co <;> simp [chkC] at hc
    exact wp_label ⟨.normal, f, h, g, ho, trivial, R, Fr, ag0, le0⟩
end

/-! ### Functions -/
inductive RV where
  | tmp (t : Nat)
  | cell (t n : Nat) (agg : Bool)

structure CF where
  nt : Nat
  res : List RV
  body : CC

def retOf (f : F) (h : H) : RV → Option V
  | .tmp t => some (f t)
  | .cell t n agg => match f t with
    | .ptr (some (b, o)) => match h.load b o n with
      | some l => if agg then some (.agg l) else one? l
      | none => none
    | _ => none
def retsOf (f : F) (h : H) : List RV → Option (List V)
  | [] => some []
  | r :: rs => match retOf f h r, retsOf f h rs with
    | some v, some vs => some (v :: vs)
    | _, _ => none
def retV (l : List V) : V := match l with
  | [v] => v
  | l => .tup l

def argF (args : List V) : F := fun t => args.getD t .bot

def postF (C : CF) (Q : Out → H → Prop) : Ex → F → H → Prop
  | .normal, f, h => ∃ l, retsOf f h C.res = some l ∧ Q (.ret (retV l)) h
  | .ret, f, h => ∃ l, retsOf f h C.res = some l ∧ Q (.ret (retV l)) h
  | .panic v, f, h => Q (.panic v) h
  | _, _, _ => False

def chkRV (P : Program) (nt : Nat) : ResultVar → RV → Bool
  | .tmp t, .tmp t' => t == t'
  | .cell t ty, .cell t' n agg => t == t' && decide (t < nt) && szT P ty == some n && aggT P ty == some agg && (agg || n == 1)
  | _, _ => false
def chkRVs (P : Program) (nt : Nat) : List ResultVar → List RV → Bool
  | [], [] => true
  | r :: rs, q :: qs => chkRV P nt r q && chkRVs P nt rs qs
  | _, _ => false

def chkF (P : Program) (k : Nat) (C : CF) : Bool := match P.funcs[k]? with
  | some fn => fn.ntmps == C.nt && chkRVs P C.nt fn.results.toList C.res && (match fn.body with
    | some b => chkC P C.nt b C.body
    | none => false) && callable P k
  | none => false

end Go.Ab

set_option linter.unusedVariables false
set_option linter.unusedSectionVars false
set_option linter.unusedSimpArgs false
namespace Go.Ab
open Go.RowKit
section
variable {P : Program} [LibC P] {c : Base} {nt : NT}

def resOne (tmps : Array Value) : ResultVar → Sem Value
  | .tmp t => pure (tmps.getD t undef)
  | .cell a t => do loadVar t (← asAddr (tmps.getD a undef))

def packV : List Value → Value
  | [x] => x
  | xs => .tuple xs.toArray

theorem results_list (fn : Func) (tmps : Array Value) (w : World) (xs : List Value) (h : (fn.results.toList.mapM (resOne tmps)).run P w = .ok xs w) :
    (results fn tmps).run P w = .ok (packV xs) w := by
  have e : (fn.results.mapM (resOne tmps)).run P w = .ok xs.toArray w := by
    rw [Array.mapM_eq_mapM_toList, Sem.run_map, h]; rfl
  have e2 : results fn tmps = (do
      let vs ← fn.results.mapM (resOne tmps)
      pure (if h : vs.size = 1 then vs[0] else .tuple vs)) := by
    unfold results resOne
    congr 1
  rw [e2]
  simp only [Sem.run_bind, e, Result.andThen_ok, Sem.run_pure]
  match xs with
  | [] => rfl
  | [x] => rfl
  | x :: y :: zs => simp [packV]

theorem ret_rel {g : G} {h : H} {w : World} {f : F} {a : Act} (R : Rel c g h w) (Fr : FRel g h.next nt f a) : ∀ {rs : List ResultVar} {qs : List RV} {l : List V}, chkRVs P nt.n rs qs = true → retsOf f h qs = some l →
    ∃ xs, (rs.mapM (resOne a.tmps)).run P w = .ok xs w ∧ VsRel g h.next l xs
  | [], [], l, _, hl => by
    simp [retsOf] at hl; subst hl
    exact ⟨[], by simp, by simp [VsRel]⟩
  | [], _ :: _, _, hc, _ => by simp [chkRVs] at hc
  | _ :: _, [], _, hc, _ => by simp [chkRVs] at hc
  | r :: rs, q :: qs, l, hc, hl => by
    simp only [chkRVs, Bool.and_eq_true] at hc
    simp only [retsOf] at hl
    split at hl
    · rename_i v vs hv hvs
      injection hl with hl
      subst hl
      obtain ⟨xs, hx, hr⟩ := ret_rel R Fr hc.2 hvs
      have one : ∃ x, (resOne a.tmps r).run P w = .ok x w ∧ VRel g h.next v x := by
        have h1 := hc.1
        cases r with
        | tmp t =>
          cases q with
          | tmp t' =>
            simp [chkRV] at h1
            subst h1
            simp [retOf] at hv
            subst hv
            exact ⟨_, by simp [resOne], Fr.val _⟩
          | cell _ _ _ => simp [chkRV] at h1
        | cell t ty =>
          cases q with
          | tmp _ => simp [chkRV] at h1
          | cell t' n agg =>
            simp only [chkRV, Bool.and_eq_true, beq_iff_eq] at h1
            obtain ⟨⟨⟨⟨rfl, h2⟩, h3⟩, h4⟩, h5⟩ := h1
            simp only [retOf] at hv
            have e := Fr.val t
            split at hv
            · rename_i b off hp
              rw [hp] at e; simp only [VRel] at e
              split at hv
              · rename_i m hm
                cases agg with
                | true =>
                  simp at hv
                  subst hv
                  obtain ⟨X, hX, hr, _⟩ := R.loadCells (P := P) hm
                  refine ⟨.agg X, ?_, by simp only [VRel]; exact ⟨X, rfl, hr⟩⟩
                  simp [resOne, e.2, asAddr, loadVar, aggT_run h4, szT_run h3, hX]
                | false =>
                  simp at hv h5
                  subst h5
                  obtain rfl := one_some hv
                  obtain ⟨m', hm', hlen, hl'⟩ := load_some hm
                  obtain ⟨ys, q1, q2, q3⟩ := R.cells hm' hlen
                  rw [← hl'] at q1
                  simp only [VsRel] at q1
                  obtain ⟨y, ys', rfl, hy, _⟩ := q1
                  have hcell := q3 0 y rfl
                  simp only [Addr.add, if_true] at hcell
                  exact ⟨y, by simp [resOne, e.2, asAddr, loadVar, aggT_run h4, hcell], hy⟩
              · cases hv
            · cases hv
      obtain ⟨x, hx1, hx2⟩ := one
      refine ⟨x :: xs, ?_, VsRel.cons hx2 hr⟩
      simp only [List.mapM_cons, Sem.run_bind, hx1, Result.andThen_ok, hx, Sem.run_pure]
    · cases hl

theorem retV_rel {g : G} {N : Nat} {l : List V} {xs : List Value} (h : VsRel g N l xs) : VRel g N (retV l) (packV xs) := by
  match l, xs, h with
  | [], xs, h =>
    simp only [VsRel] at h; subst h
    simp [retV, packV, VRel, VsRel]
  | [v], xs, h =>
    simp only [VsRel] at h
    obtain ⟨y, ys, rfl, hv, rfl⟩ := h
    exact hv
  | v :: v' :: vs, xs, h =>
    have h0 := h
    simp only [VsRel] at h
    obtain ⟨y, ys, rfl, hv, y', ys', rfl, hv', hs⟩ := h
    simp only [retV, packV, VRel]
    exact ⟨_, rfl, by simpa using h0⟩

theorem Tr.of_awp {k : Nat} {C : CF} (hc : chkF P k C = true) {args : List V} {h : H} {Q : Out → H → Prop} (hlen : args.length ≤ C.nt) (ho : awp P C.body (postF C Q) (argF args) h) : Tr P k args h Q := by
  unfold chkF at hc
  split at hc
  · rename_i fn hf
    simp only [Bool.and_eq_true, beq_iff_eq] at hc
    obtain ⟨⟨⟨h1, h2⟩, h3⟩, h4⟩ := hc
    refine ⟨h4, fun c hL g w xs R hx => ?_⟩
    split at h3
    · rename_i b hb
      have hxl := hx.length
      simp at hxl
      refine calls_of_wp hf hb ?_
      have Fr : FRel g h.next ⟨C.nt, []⟩ (argF args) { tmps := xs ++ Array.replicate (fn.ntmps - xs.size) undef, defers := [] } := by
        refine ⟨by simp; omega, rfl, fun t => ?_⟩
        unfold argF
        by_cases ht : t < args.length
        · obtain ⟨y, hy, hv⟩ := hx.get? (i := t) (u := args[t]) (by simp [ht])
          have e1 : args.getD t .bot = args[t] := by simp [List.getD, ht]
          have e2 : (xs ++ Array.replicate (fn.ntmps - xs.size) undef).getD t undef = y := by
            have : t < xs.size := by omega
            simp [this] at hy
            simp [Array.getD, Array.getElem_append, this, hy]
            omega
          rw [e1, e2]; exact hv
        · have e1 : args.getD t .bot = .bot := by simp [List.getD, List.getElem?_eq_none (show args.length ≤ t by omega)]
          have e2 : (xs ++ Array.replicate (fn.ntmps - xs.size) undef).getD t undef = undef := by
            have : ¬ t < xs.size := by omega
            simp only [Array.getD_eq_getD_getElem?, Array.getElem?_append, this, if_false, Array.getElem?_replicate]
            split <;> rfl
          rw [e1, e2]
          simp [VRel]
      refine wp_mono (awp_sound hL C.body b h3 _ _ h ho g h.next g w _ R Fr (Agree.refl _ _) (Nat.le_refl _)) ?_
      rintro e a1 w1 ⟨ex, f1, h1', g1, q, er, R1, Fr1, ag1, le1⟩
      have fin : ∀ l, retsOf f1 h1' C.res = some l → Q (.ret (retV l)) h1' → a1.defers = [] ∧ ∃ v, (results fn a1.tmps).run P w1 = .ok v w1 ∧ ∃ out h' g', Q out h' ∧ Rel c g' h' w1 ∧ Agree h.next g g' ∧ h.next ≤ h'.next ∧ ERel g' h'.next out (.returned v) := by
        intro l hl hq
        obtain ⟨ys, hy, hr⟩ := ret_rel R1 Fr1 h2 hl
        exact ⟨Fr1.defers, _, results_list fn a1.tmps w1 ys hy, _, h1', g1, hq, R1, ag1, le1, retV_rel hr⟩
      cases ex <;> cases e <;> simp only [ExRel] at er
      · obtain ⟨l, hl, hq⟩ := q
        exact fin l hl hq
      · exact q.elim
      · exact q.elim
      · obtain ⟨l, hl, hq⟩ := q
        exact fin l hl hq
      · obtain ⟨x, rfl, hv⟩ := er
        exact ⟨Fr1.defers, _, h1', g1, q, R1, ag1, le1, x, rfl, hv⟩
    · cases h3
  · cases hc
end
end Go.Ab

/-! Functions with one deferred closure that recovers. -/
set_option linter.unusedVariables false
set_option linter.unusedSectionVars false
set_option linter.unusedSimpArgs false
namespace Go.Ab
open Go.RowKit

section
variable {P : Program} [LibC P]

theorem upon_mono {o : Oper} {a : Act} {K K' : Act → World → Prop} {Q Q' : Exit → Act → World → Prop} {r : Result Next} (hno : ∀ a w, ¬ Q .outgrown a w)
    (hk : ∀ a w, K a w → K' a w) (hq : ∀ e a w, Q e a w → Q' e a w) (h : o.upon P a K Q r) : o.upon P a K' Q' r := by
  have hl : ¬ LetsOut Q := fun ⟨a, w, h⟩ => hno a w h
  cases r with
  | ok n w =>
    cases n <;> simp only [Oper.upon] at h ⊢
    case value v => exact hk _ _ h
    case skip => exact hk _ _ h
    case defer d => exact hk _ _ h
    case enter f args =>
      refine h.mono fun e w' he => ?_
      cases e with
      | returned v => exact hk _ _ he
      | panicked ch => exact hq _ _ _ he
      | outgrown => exact absurd he hl
    case row row args => exact h.mono fun v w' he => hk _ _ he
  | halt s w => cases s <;> simp only [Oper.upon] at h ⊢ <;> exact hq _ _ _ h

theorem opsS_of {ops : Array Oper} {Q : Exit → Act → World → Prop} (hno : ∀ a w, ¬ Q .outgrown a w) : ∀ (l : List Nat) (a : Act) (w : World), wpOps P ops Q l a w → ∀ cs, wpOpsS P ops (fun e a cs' w => cs' = cs ∧ Q e a w) l a cs w
  | [], a, w, h, cs => ⟨rfl, h⟩
  | i :: l, a, w, h, cs => by
    simp only [wpOps] at h
    simp only [wpOpsS]
    cases ho : ops[i]? with
    | none =>
      simp only [ho] at h ⊢
      exact opsS_of hno l a w h cs
    | some o =>
      simp only [ho] at h ⊢
      by_cases hw : Region.wanted o (yielded ops a.tmps) = true
      · rw [if_pos hw] at h
        rw [if_pos hw]
        rcases h with h | h
        · unfold Oper.wp at h
          generalize hr : (execOp a.eval o).run P w = r at h
          split
          · simp only [Oper.upon] at h
          · exact upon_mono hno (fun a w h => opsS_of hno l a w h cs) (fun e a w h => ⟨trivial, h⟩) h
        · exact absurd h.2 (fun ⟨a, w, h⟩ => hno a w h)
      · rw [if_neg hw] at h
        rw [if_neg hw]
        exact opsS_of hno l _ w h cs

/-- What a caller's mode stands for: it returns, or it panics with a value. -/
def URel (g : G) (N : Nat) : Option V → FrameMode → Prop
  | none, u => u = .returning
  | some v, u => ∃ x, u = .panicking [{ v := x, recovered := false }] ∧ VRel g N v x

/-- A deferred closure that recovers. -/
def TrD (P : Program) [LibC P] (k : Nat) (args : List V) (h : H) (pv : Option V) (Q : H → Prop) : Prop :=
  callable P k = true ∧ ∀ (c : Base), LibB P c → ∀ (g : G) (w : World) (xs : Array Value) (u : FrameMode), Rel c g h w → VsRel g h.next args xs.toList → URel g h.next pv u →
    CallsD P k xs u w fun e u' w' => ∃ v h' g', e = .returned v ∧ settle u' = .returning ∧ Q h' ∧ Rel c g' h' w' ∧ Agree h.next g g' ∧ h.next ≤ h'.next

theorem TrD.mono {k : Nat} {args : List V} {h : H} {pv : Option V} {Q Q' : H → Prop} (t : TrD P k args h pv Q) (hq : ∀ h', Q h' → Q' h') : TrD P k args h pv Q' :=
  ⟨t.1, fun c hL g w xs u R hx hu => (t.2 c hL g w xs u R hx hu).mono fun _ _ _ ⟨v, h', g', e, s, q, r⟩ => ⟨v, h', g', e, s, hq _ q, r⟩⟩

/-- How such a closure goes: it recovers, and goes on. -/
def awpR (P : Program) [LibC P] (body : CC) (f : F) (h : H) (pv : Option V) (Q : H → Prop) : Prop := match body with
  | .seq (.region false (ci :: ops)) b => match ci.op, ci.guard with
    | .rcv, none => aOps P (ci :: ops) (fun f h => awp P b (fun e _ h => match e with
      | .normal => Q h
      | .ret => Q h
      | _ => False) f h) (fun _ _ _ => False) ops (f.put ci.dst (pv.getD .nilifc)) h
    | _, _ => False
  | _ => False

theorem chk_rcv {o : Op} (h : chk P o .rcv = true) : ∃ cl, o = .call cl ∧ cl.callee = .builtin .recover ∧ cl.args = #[] := by
  simp only [chk] at h
  split at h
  · rename_i cl
    split at h
    · rename_i hb
      obtain ⟨q1, q2, q3⟩ := bi_eq hb
      exact ⟨cl, rfl, q1, by simpa using q2⟩
    · cases h
  · cases h

theorem arg_frame {C : CF} {args : List V} {g : G} {h : H} {xs : Array Value} {n : Nat} (h1 : n = C.nt) (hlen : args.length ≤ C.nt) (hx : VsRel g h.next args xs.toList) :
    FRel g h.next ⟨C.nt, []⟩ (argF args) { tmps := xs ++ Array.replicate (n - xs.size) undef, defers := [] } := by
  have hxl := hx.length
  simp at hxl
  refine ⟨by simp; omega, rfl, fun t => ?_⟩
  unfold argF
  by_cases ht : t < args.length
  · obtain ⟨y, hy, hv⟩ := hx.get? (i := t) (u := args[t]) (by simp [ht])
    have e1 : args.getD t .bot = args[t] := by simp [List.getD, ht]
    have e2 : (xs ++ Array.replicate (n - xs.size) undef).getD t undef = y := by
      have : t < xs.size := by omega
      simp [this] at hy
      simp [Array.getD, Array.getElem_append, this, hy]
      omega
    rw [e1, e2]; exact hv
  · have e1 : args.getD t .bot = .bot := by simp [List.getD, List.getElem?_eq_none (show args.length ≤ t by omega)]
    have e2 : (xs ++ Array.replicate (n - xs.size) undef).getD t undef = undef := by
      have : ¬ t < xs.size := by omega
      simp only [Array.getD_eq_getD_getElem?, Array.getElem?_append, this, if_false, Array.getElem?_replicate]
      split <;> rfl
    rw [e1, e2]
    simp [VRel]

theorem TrD.of_awp {k : Nat} {C : CF} (hc : chkF P k C = true) (hres : C.res = []) {args : List V} {h : H} {pv : Option V} {Q : H → Prop} (hlen : args.length ≤ C.nt) (ho : awpR P C.body (argF args) h pv Q) : TrD P k args h pv Q := by
  unfold chkF at hc
  split at hc
  · rename_i fn hf
    simp only [Bool.and_eq_true, beq_iff_eq] at hc
    obtain ⟨⟨⟨h1, h2⟩, h3⟩, h4⟩ := hc
    refine ⟨h4, fun c hL g w xs u R hx hu => ?_⟩
    split at h3
    · rename_i bd hb
      have Fr := arg_frame h1 hlen hx
      have hfr : fn.results.toList = [] := by
        rw [hres] at h2
        generalize fn.results.toList = l at h2
        cases l with
        | nil => rfl
        | cons r rs => simp [chkRVs] at h2
      have hret : ∀ (tmps : Array Value) (w : World), (results fn tmps).run P w = .ok (.tuple #[]) w := by
        intro tmps w
        have := results_list (P := P) fn tmps w [] (by rw [hfr]; rfl)
        simpa [packV] using this
      unfold awpR at ho
      split at ho
      · rename_i ci ops b hbd
        rw [hbd] at h3
        cases bd <;> simp [chkC] at h3
        rename_i x y
        obtain ⟨h5, h6⟩ := h3
        cases x <;> simp [chkC] at h5
        rename_i id os draw
        obtain ⟨h7, h8⟩ := h5
        subst h7
        split at ho
        · rename_i hop hgd
          obtain ⟨hl, hcs⟩ := chkCIs_get h8
          have hpos : 0 < os.size := by simp at hl; omega
          have h00 := hcs 0 os.toList[0] ci (by simp [hpos]) (by simp)
          simp only [chkCI, Bool.and_eq_true, beq_iff_eq] at h00
          obtain ⟨⟨⟨⟨z1, z2⟩, z3⟩, z4⟩, z5⟩ := h00
          rw [hop] at z1
          obtain ⟨cl, y1, y2, y3⟩ := chk_rcv z1
          refine callsD_of_wpS hf hb fun c₀ cs hm => ?_
          refine wpS_seq (wpS_region ?_)
          rw [List.range_eq_range']
          have es : os.size = ops.length + 1 := by simpa using hl
          rw [es, List.range'_succ]
          have ho0 : os[0]? = some os.toList[0] := by simp [hpos]
          have hwant : ∀ y, Region.wanted os.toList[0] y = true := by
            intro y
            unfold Region.wanted
            rw [z4, hgd]
          have hexec : ∀ (a : Act), (execOp a.eval os.toList[0]).run P w = .ok .recover w := by
            intro a
            generalize os.toList[0] = o0 at y1
            simp [execOp, y1, y2, y3, resolve, invoke, builtin]
          -- behind the recovery
          have next : ∀ (x : Value) (cs' : List Frame) (u' : FrameMode), VRel g h.next (pv.getD .nilifc) x → cs' = { c₀ with mode := u' } :: cs → settle u' = .returning →
              wpOpsS P os (Exit.thenS (Code.wpS P y (bodyPostS P fn c₀ cs fun e u' w' => ∃ v h' g', e = .returned v ∧ settle u' = .returning ∧ Q h' ∧ Rel c g' h' w' ∧ Agree h.next g g' ∧ h.next ≤ h'.next)) (bodyPostS P fn c₀ cs fun e u' w' => ∃ v h' g', e = .returned v ∧ settle u' = .returning ∧ Q h' ∧ Rel c g' h' w' ∧ Agree h.next g g' ∧ h.next ≤ h'.next))
                (List.range' (0 + 1) ops.length) (Act.put { tmps := xs ++ Array.replicate (fn.ntmps - xs.size) undef, defers := [] } os.toList[0].dst x) cs' w := by
            intro x cs' u' hxv hcs' hst
            have hd : ∀ t, ci.dst = some t → t < C.nt := by
              intro t ht; rw [ht] at z3; simpa using z3
            have Fr1 := Fr.put ci.dst hd hxv
            rw [← z2] at Fr1
            have hops := ops_sound hL (c := c) (nt := ⟨C.nt, []⟩) hl hcs (fun e f h => match e with
              | .normal => awp P b (fun e _ h => match e with
                | .normal => Q h
                | .ret => Q h
                | _ => False) f h
              | _ => False) g h.next ops 1 (by simp) _ h (by simpa using ho) g w _ R (by rw [← z2]; exact Fr1) (Agree.refl _ _) (Nat.le_refl _)
            have e2 : (ci :: ops).length - 1 = ops.length := by simp
            rw [e2] at hops
            have hS := opsS_of (by
              rintro a w ⟨ex, f, h', g', q, er, _⟩
              cases ex <;> simp only [ExRel] at er) _ _ _ hops cs'
            have hmono : ∀ (l : List Nat) (a : Act) (cs1 : List Frame) (w1 : World) (Q1 Q2 : Exit → Act → List Frame → World → Prop), (∀ e a cs w, Q1 e a cs w → Q2 e a cs w) → (∀ a cs w, ¬ Q1 .outgrown a cs w) → wpOpsS P os Q1 l a cs1 w1 → wpOpsS P os Q2 l a cs1 w1 := by
              intro l
              induction l with
              | nil => intro a cs1 w1 Q1 Q2 hq hn hh; exact hq _ _ _ _ hh
              | cons i l ih =>
                intro a cs1 w1 Q1 Q2 hq hn hh
                simp only [wpOpsS] at hh ⊢
                split at hh
                · exact ih _ _ _ Q1 Q2 hq hn hh
                · split at hh
                  · rename_i hw
                    rw [if_pos hw]
                    split at hh
                    · split at hh <;> exact ih _ _ _ Q1 Q2 hq hn hh
                    · exact upon_mono (fun a w => hn a cs1 w) (fun a w => ih _ _ _ Q1 Q2 hq hn) (fun e a w => hq e a cs1 w) hh
                  · rename_i hw
                    rw [if_neg hw]
                    exact ih _ _ _ Q1 Q2 hq hn hh
            refine hmono _ _ _ _ _ _ ?_ ?_ hS
            · rintro e a1 cs1 w1 ⟨rfl, ex, f1, h1', g1, q, er, R1, Fr1, ag1, le1⟩
              cases ex <;> cases e <;> simp only [ExRel] at er <;> first | (exact q.elim) | skip
              simp only [Exit.thenS]
              refine wpS_of_wp (wp_mono (awp_sound hL (c := c) (nt := ⟨C.nt, []⟩) b y h6 _ f1 h1' q g h.next g1 w1 a1 R1 Fr1 ag1 le1) ?_)
              rintro e a2 w2 ⟨ex, f2, h2', g2, q2, er2, R2, Fr2, ag2, le2⟩
              cases ex <;> cases e <;> simp only [ExRel] at er2 <;> first | (exact q2.elim) | skip
              all_goals exact ⟨Fr2.defers, u', hcs', _, hret _ _, _, h2', g2, rfl, hst, q2, R2, ag2, le2⟩
            · rintro a cs w ⟨rfl, ex, f, h', g', q, er, _⟩
              cases ex <;> simp only [ExRel] at er
          simp only [wpOpsS, ho0, hwant, if_true, hexec]
          cases pv with
          | none =>
            simp only [URel] at hu
            have hrec : recoverD (c₀ :: cs) = none := by
              simp only [recoverD, hm, hu]
            rw [hrec]
            simp only
            refine next .nilIface (c₀ :: cs) .returning (by simp [VRel]) ?_ rfl
            rw [← hu, ← hm]
          | some v =>
            simp only [URel] at hu
            obtain ⟨x, hu, hxv⟩ := hu
            have hrec : recoverD (c₀ :: cs) = some (x, { c₀ with mode := .panicking [{ v := x, recovered := true }] } :: cs) := by
              simp only [recoverD, hm, hu]
            rw [hrec]
            simp only
            exact next x _ (.panicking [{ v := x, recovered := true }]) hxv rfl rfl
        · exact ho.elim
      · exact ho.elim
    · cases h3
  · cases hc

/-- A region that defers a closure: its slot, its function, what it captures. -/
def isDfr : CC → Option (Nat × Nat × List X)
  | .region false [⟨some t, .mkF k [] cap, _, none⟩, ⟨none, .dfr (.t t'), _, none⟩] => if t = t' then some (t, k, cap) else none
  | _ => none

def postD (P : Program) [LibC P] (C : CF) (Q : Out → H → Prop) (k : Nat) (vs : List V) : Ex → F → H → Prop
  | .normal, f, h => TrD P k vs h none fun h' => ∃ l, retsOf f h' C.res = some l ∧ Q (.ret (retV l)) h'
  | .ret, f, h => TrD P k vs h none fun h' => ∃ l, retsOf f h' C.res = some l ∧ Q (.ret (retV l)) h'
  | .panic v, f, h => TrD P k vs h (some v) fun h' => ∃ l, retsOf f h' C.res = some l ∧ Q (.ret (retV l)) h'
  | _, _, _ => False

def awpD (P : Program) [LibC P] (C : CF) (Q : Out → H → Prop) : CC → F → H → Prop
  | .seq a b, f, h => match isDfr a with
    | some (t, k, cap) => awp P b (postD P C Q k (cap.map (rd f))) (f.put (some t) (.fn k [] (cap.map (rd f)))) h
    | none => awp P a (fun e f h => match e with
      | .normal => awpD P C Q b f h
      | e => postF C Q e f h) f h
  | _, _, _ => False

theorem isDfr_some {a : CC} {t k : Nat} {cap : List X} (h : isDfr a = some (t, k, cap)) : ∃ z z', a = .region false [⟨some t, .mkF k [] cap, z, none⟩, ⟨none, .dfr (.t t), z', none⟩] := by
  unfold isDfr at h
  split at h
  · split at h
    · rename_i e
      simp only [Option.some.injEq, Prod.mk.injEq] at h
      obtain ⟨rfl, rfl, rfl⟩ := h
      subst e
      exact ⟨_, _, rfl⟩
    · cases h
  · cases h

theorem chk_dfr {o : Op} {x : X} (h : chk P o (.dfr x) = true) : ∃ cl y, o = .defer cl ∧ cl.callee = .value y ∧ chkX y x = true ∧ cl.args = #[] := by
  simp only [chk] at h
  split at h
  · rename_i cl
    split at h
    · rename_i y hy
      simp only [Bool.and_eq_true] at h
      exact ⟨cl, y, rfl, hy, h.1, by simpa using h.2⟩
    · cases h
  · cases h

section
variable {c : Base} {C : CF} {fn : Func} {Q : Out → H → Prop}

/-- What a caller is told. -/
def Told (c : Base) (g : G) (N : Nat) (Q : Out → H → Prop) (e : Ending) (w' : World) : Prop :=
  ∃ out h' g', Q out h' ∧ Rel c g' h' w' ∧ Agree N g g' ∧ N ≤ h'.next ∧ ERel g' h'.next out e

theorem fin_sound (h2 : chkRVs P C.nt fn.results.toList C.res = true) {ds : List Deferred} {g0 g1 : G} {N0 : Nat} {f1 : F} {h1 : H} {a1 : Act} {w1 : World} {l : List V} (R1 : Rel c g1 h1 w1) (Fr1 : FRel g1 h1.next ⟨C.nt, ds⟩ f1 a1) (ag1 : Agree N0 g0 g1) (le1 : N0 ≤ h1.next)
    (hl : retsOf f1 h1 C.res = some l) (hq : Q (.ret (retV l)) h1) : ∃ v, (results fn a1.tmps).run P w1 = .ok v w1 ∧ Told c g0 N0 Q (.returned v) w1 := by
  obtain ⟨ys, hy, hr⟩ := ret_rel R1 Fr1 h2 hl
  exact ⟨_, results_list fn a1.tmps w1 ys hy, _, h1, g1, hq, R1, ag1, le1, retV_rel hr⟩

theorem leave_sound (hL : LibB P c) (h2 : chkRVs P C.nt fn.results.toList C.res = true) {k : Nat} {vs : List V} {dcap : Array Value} {pv : Option V} {u : FrameMode} {g0 g1 : G} {N0 : Nat} {f1 : F} {h1 : H} {a1 : Act} {w1 : World} (R1 : Rel c g1 h1 w1) (Fr1 : FRel g1 h1.next ⟨C.nt, [{ target := .fn (.func k) dcap, args := #[] }]⟩ f1 a1) (ag1 : Agree N0 g0 g1) (le1 : N0 ≤ h1.next)
    (hv : VsRel g1 h1.next vs dcap.toList) (hu : URel g1 h1.next pv u) (hne : u ≠ .run) (ht : TrD P k vs h1 pv fun h' => ∃ l, retsOf f1 h' C.res = some l ∧ Q (.ret (retV l)) h') :
    Leaves P fn a1.tmps (Told c g0 N0 Q) a1.defers u w1 := by
  rw [Fr1.defers]
  obtain ⟨hk, ht⟩ := ht
  refine leaves_cons (f := k) (args := dcap) hne ?_ ?_
  · simp [invoke, callable_run hk]
  · refine (ht c hL g1 w1 dcap u R1 hv hu).mono ?_
    rintro e u' w' ⟨v, h', g', rfl, hs, ⟨l, hl, hq⟩, R', ag', le'⟩
    simp only [hs, Leaves]
    exact fin_sound h2 R' (Fr1.mono ag' le') (ag1.trans ag' le1) (by omega) hl hq

theorem awpD_sound (hL : LibB P c) (h2 : chkRVs P C.nt fn.results.toList C.res = true) : ∀ (cc : CC) (co : Code), chkC P C.nt co cc = true → ∀ (f : F) (h : H), awpD P C Q cc f h → ∀ (g0 : G) (N0 : Nat) (g : G) (w : World) (a : Act), Rel c g h w → FRel g h.next ⟨C.nt, []⟩ f a → Agree N0 g0 g → N0 ≤ h.next →
    co.wp P (bodyPostD P fn (Told c g0 N0 Q)) a w
  | .seq x b, co, hc, f, h, ho, g0, N0, g, w, a, R, Fr, ag0, le0 => by
    cases co <;> simp [chkC] at hc
    rename_i x' y'
    simp only [awpD] at ho
    cases hd : isDfr x with
    | none =>
      simp only [hd] at ho
      refine wp_seq (wp_mono (awp_sound hL x x' hc.1 _ f h ho g0 N0 g w a R Fr ag0 le0) ?_)
      rintro e a1 w1 ⟨ex, f1, h1, g1, q, er, R1, Fr1, ag1, le1⟩
      cases ex <;> cases e <;> simp only [ExRel] at er
      · exact awpD_sound hL h2 b y' hc.2 f1 h1 q g0 N0 g1 w1 a1 R1 Fr1 ag1 le1
      · exact q.elim
      · exact q.elim
      · obtain ⟨l, hl, hq⟩ := q
        show Leaves P fn a1.tmps _ a1.defers .returning w1
        rw [Fr1.defers]
        exact fin_sound h2 R1 Fr1 ag1 le1 hl hq
      · obtain ⟨x, rfl, hv⟩ := er
        show Leaves P fn a1.tmps _ a1.defers (.panicking _) w1
        rw [Fr1.defers]
        exact ⟨_, h1, g1, q, R1, ag1, le1, x, rfl, hv⟩
    | some p =>
      obtain ⟨t, k, cap⟩ := p
      simp only [hd] at ho
      obtain ⟨z, z', rfl⟩ := isDfr_some hd
      cases x' <;> simp [chkC] at hc
      rename_i id os draw
      obtain ⟨⟨rfl, hr⟩, hy⟩ := hc
      obtain ⟨hl, hcs⟩ := chkCIs_get hr
      obtain ⟨p0, p1, rfl⟩ : ∃ p0 p1, os = #[p0, p1] := by
        rcases os with ⟨_ | ⟨p0, _ | ⟨p1, _ | ⟨p2, ol⟩⟩⟩⟩ <;> simp at hl ⊢
      have c0 := hcs 0 p0 ⟨some t, .mkF k [] cap, z, none⟩ rfl rfl
      have c1 := hcs 1 p1 ⟨none, .dfr (.t t), z', none⟩ rfl rfl
      refine wp_seq (wp_region ?_)
      have er : List.range (#[p0, p1] : Array Oper).size = [0, 1] := rfl
      have o0 : (#[p0, p1] : Array Oper)[0]? = some p0 := rfl
      have o1 : (#[p0, p1] : Array Oper)[1]? = some p1 := rfl
      rw [er]
      have c00 := c0
      have c11 := c1
      simp only [chkCI, Bool.and_eq_true, beq_iff_eq] at c00 c11
      have w0 : ∀ y, Region.wanted p0 y = true := by
        intro y; unfold Region.wanted; rw [c00.1.2]
      have w1' : ∀ y, Region.wanted p1 y = true := by
        intro y; unfold Region.wanted; rw [c11.1.2]
      simp only [wpOps, o0, w0, if_true]
      refine .inl (op_sound hL (nt := ⟨C.nt, []⟩) (K := fun f' h' => f' = f.put (some t) (.fn k [] (cap.map (rd f))) ∧ h' = h) (Kp := fun _ _ _ => False) c0 (by simp [aOp, step]) R Fr ?_ ?_)
      · rintro f' h' g1 y1 w1 ⟨rfl, rfl⟩ R1 Fr1 ag1 le1
        generalize a.put p0.dst y1 = a1 at Fr1 ⊢
        simp only [o1, w1', if_true]
        obtain ⟨cl, y, q1, q2, q3, q4⟩ := chk_dfr c11.1.1.1.1
        have e := chkX_rel Fr1 q3
        simp only [rd, F.put, if_true, VRel] at e
        obtain ⟨C1, D1, e, hC1, hD1⟩ := e
        simp only [VsRel] at hC1
        have hC1' : C1 = #[] := by simpa using hC1
        subst hC1'
        refine .inl ?_
        unfold Oper.wp
        have hexec : (execOp a1.eval p1).run P w1 = .ok (.defer { target := .fn (.func k) D1, args := #[] }) w1 := by
          simp [execOp, q1, resolve, q2, q4, e, Deferred.ofValue]
        rw [hexec]
        simp only [Oper.upon]
        have Fr2 : FRel g1 h'.next ⟨C.nt, [{ target := .fn (.func k) D1, args := #[] }]⟩ (f.put (some t) (.fn k [] (cap.map (rd f)))) (({ a1 with defers := { target := .fn (.func k) D1, args := #[] } :: a1.defers } : Act).put p1.dst undef) := by
          have hdst : p1.dst = none := c11.1.1.1.2
          rw [hdst]
          exact ⟨Fr1.size, by simp [Act.put, Fr1.defers], Fr1.val⟩
        refine wp_mono (awp_sound hL b y' hy _ _ h' ho g1 h'.next g1 w1 _ R1 Fr2 (Agree.refl _ _) (Nat.le_refl _)) ?_
        rintro e a2 w2 ⟨ex, f2, h2', g2, q, er2, R2, Fr3, ag2, le2⟩
        have hD2 := hD1.mono ag2 le2
        replace ag2 := (ag0.trans ag1 le0).trans ag2 (by omega)
        replace le2 : N0 ≤ h2'.next := by omega
        cases ex <;> cases e <;> simp only [ExRel] at er2
        · exact leave_sound hL h2 R2 Fr3 ag2 le2 hD2 (by simp [URel]) (by simp) q
        · exact q.elim
        · exact q.elim
        · exact leave_sound hL h2 R2 Fr3 ag2 le2 hD2 (by simp [URel]) (by simp) q
        · obtain ⟨x, rfl, hv⟩ := er2
          exact leave_sound hL (pv := some _) h2 R2 Fr3 ag2 le2 hD2 ⟨x, rfl, hv⟩ (by simp) q
      · rintro v f' h' g' a' w' x hf
        exact hf.elim
  | .skip, co, hc, f, h, ho, _, _, _, _, _, _, _, _, _ => ho.elim
  | .region _ _, co, hc, f, h, ho, _, _, _, _, _, _, _, _, _ => ho.elim
  | .regionP _ _ _, co, hc, f, h, ho, _, _, _, _, _, _, _, _, _ => ho.elim
  | .seqK _ _ _, co, hc, f, h, ho, _, _, _, _, _, _, _, _, _ => ho.elim
  | .cond _ _ _, co, hc, f, h, ho, _, _, _, _, _, _, _, _, _ => ho.elim
  | .block _ _, co, hc, f, h, ho, _, _, _, _, _, _, _, _, _ => ho.elim
  | .loop _ _, co, hc, f, h, ho, _, _, _, _, _, _, _, _, _ => ho.elim
  | .exit _, co, hc, f, h, ho, _, _, _, _, _, _, _, _, _ => ho.elim
  | .ret, co, hc, f, h, ho, _, _, _, _, _, _, _, _, _ => ho.elim
  | .scope _, co, hc, f, h, ho, _, _, _, _, _, _, _, _, _ => ho.elim
  | .scopeJ _ _ _ _, co, hc, f, h, ho, _, _, _, _, _, _, _, _, _ => ho.elim
  | .goto _, co, hc, f, h, ho, _, _, _, _, _, _, _, _, _ => ho.elim
  | .refuse, co, hc, f, h, ho, _, _, _, _, _, _, _, _, _ => ho.elim
  | .label _, co, hc, f, h, ho, _, _, _, _, _, _, _, _, _ => ho.elim
end

theorem Tr.of_awpD {k : Nat} {C : CF} (hc : chkF P k C = true) {args : List V} {h : H} {Q : Out → H → Prop} (hlen : args.length ≤ C.nt) (ho : awpD P C Q C.body (argF args) h) : Tr P k args h Q := by
  unfold chkF at hc
  split at hc
  · rename_i fn hf
    simp only [Bool.and_eq_true, beq_iff_eq] at hc
    obtain ⟨⟨⟨h1, h2⟩, h3⟩, h4⟩ := hc
    refine ⟨h4, fun c hL g w xs R hx => ?_⟩
    split at h3
    · rename_i bd hb
      exact calls_of_wp_defers hf hb (awpD_sound hL h2 C.body bd h3 _ h ho g h.next g w _ R (arg_frame h1 hlen hx) (Agree.refl _ _) (Nat.le_refl _))
    · cases h3
  · cases hc
end
end Go.Ab
