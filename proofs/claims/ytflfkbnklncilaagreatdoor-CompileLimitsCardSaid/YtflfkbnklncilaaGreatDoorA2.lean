import Derived.Test.YtflfkbnklncilaaGreatDoorA1
import Derived.Lib.AppendStr
import Derived.Laws.Externs
import Derived.Lib.UnsafeStr
set_option linter.unusedVariables false
set_option linter.unusedSimpArgs false
/-! A part of a claim: see its last text. -/
namespace Go.Ab
open Go.RowKit
section
variable {P : Program} {c : Base} {g : G} {h : H} {w : World} {nt : NT} {f : F} {a : Act}

theorem good_tas (R : Rel c g h w) (Fr : FRel g h.next nt f a) (o : Oper) (t : Nat) (z : V) (ok : Bool) (x : X) (xt : TypeId) (y : Operand) (ho : o.op = .typeAssert y xt t ok) (hx : chkX y x = true) (ht : P.concrete t = true)
    (hz : ok = true → ∃ zv, zrT P t = some zv ∧ eqV z zv = true) : Good P c g h w (execOp a.eval o) (step f h (.tas t z ok x)) := by
  simp only [step]
  have e1 := chkX_rel Fr hx
  have hu : ∃ d, P.underlying t = some d ∧ ∀ m, d ≠ .interface m := by
    unfold Program.concrete at ht
    cases hd : P.underlying t with
    | none => simp [hd] at ht
    | some d => refine ⟨d, rfl, fun m hm => ?_⟩; subst hm; simp [hd] at ht
  obtain ⟨d, hd, hni⟩ := hu
  split
  · rename_i u v hv
    rw [hv] at e1; simp only [VRel] at e1
    obtain ⟨q, e1, hq⟩ := e1
    split
    · rename_i he
      subst he
      refine Good.pure (x := if ok then .tuple #[q, .bool true] else q) R ?_ ?_
      · simp only [execOp, ho, e1, Instr.typeAssert, Sem.run_bind, run_underlying hd, Result.andThen_ok]
        cases d <;> first | (exact absurd rfl (hni _)) | simp
      · cases ok
        · exact hq
        · simp only [VRel, if_true]
          exact ⟨_, rfl, VsRel.cons hq (VsRel.cons (by simp only [VRel]) (by simp [VsRel]))⟩
    · rename_i he
      split
      · rename_i hok
        subst hok
        obtain ⟨zv, hzv, hze⟩ := hz rfl
        have hzr := zrT_run (w := w) hzv
        refine Good.pure (x := .tuple #[zv, .bool false]) R ?_ ?_
        · simp only [execOp, ho, e1, Instr.typeAssert, Sem.run_bind, run_underlying hd, Result.andThen_ok]
          cases d <;> first | (exact absurd rfl (hni _)) | simp [he, hzr]
        · simp only [VRel]
          exact ⟨_, rfl, VsRel.cons (eqV_rel hze) (VsRel.cons (by simp only [VRel]) (by simp [VsRel]))⟩
      · trivial
  · rename_i hv
    rw [hv] at e1; simp only [VRel] at e1
    split
    · rename_i hok
      subst hok
      obtain ⟨zv, hzv, hze⟩ := hz rfl
      have hzr := zrT_run (w := w) hzv
      refine Good.pure (x := .tuple #[zv, .bool false]) R ?_ ?_
      · simp only [execOp, ho, e1, Instr.typeAssert, Sem.run_bind, run_underlying hd, Result.andThen_ok]
        cases d <;> first | (exact absurd rfl (hni _)) | simp [hzr]
      · simp only [VRel]
        exact ⟨_, rfl, VsRel.cons (eqV_rel hze) (VsRel.cons (by simp only [VRel]) (by simp [VsRel]))⟩
    · trivial
  · trivial

theorem good_lenS (R : Rel c g h w) (Fr : FRel g h.next nt f a) (o : Oper) (x : X) (cl : Call) (y : Operand) (t : TypeId) (ho : o.op = .call cl) (hc : cl.callee = .builtin .len) (ha : cl.args = #[y]) (hT : cl.argTypes = #[t]) (hx : chkX y x = true)
    (ht : P.underlying t = some .string) : Good P c g h w (execOp a.eval o) (step f h (.lenS x)) := by
  simp only [step]
  have e := chkX_rel Fr hx
  split
  · rename_i l hv
    rw [hv] at e; simp only [VRel] at e
    have hsz : (⟨l.toArray⟩ : ByteArray).size = l.length := by simp [ByteArray.size]
    exact Good.int R (by simp [execOp, ho, hc, ha, hT, e, resolve, invoke, builtin, Builtin.len_, run_underlying ht, goInt, hsz])
  · trivial

theorem good_lenV (R : Rel c g h w) (Fr : FRel g h.next nt f a) (o : Oper) (x : X) (cl : Call) (y : Operand) (t e' : TypeId) (ho : o.op = .call cl) (hc : cl.callee = .builtin .len) (ha : cl.args = #[y]) (hT : cl.argTypes = #[t]) (hx : chkX y x = true)
    (ht : elT P t = some e') : Good P c g h w (execOp a.eval o) (step f h (.lenV x)) := by
  simp only [step]
  have e := chkX_rel Fr hx
  have hu := elT_run ht
  split
  · rename_i z sz n hv
    rw [hv] at e
    rcases z with _ | ⟨b, off⟩ <;> simp only [VRel] at e
    · obtain ⟨rfl, e⟩ := e
      exact Good.int R (by simp [execOp, ho, hc, ha, hT, e, resolve, invoke, builtin, Builtin.len_, run_underlying hu, goInt])
    · obtain ⟨_, cc, _, _, _, e⟩ := e
      exact Good.int R (by simp [execOp, ho, hc, ha, hT, e, resolve, invoke, builtin, Builtin.len_, run_underlying hu, goInt])
  · rename_i hv
    rw [hv] at e; simp only [VRel] at e
    obtain ⟨z, e⟩ := e
    exact Good.int R (by simp [execOp, ho, hc, ha, hT, e, resolve, invoke, builtin, Builtin.len_, run_underlying hu, goInt])
  · rename_i hv
    rw [hv] at e; simp only [VRel] at e
    obtain ⟨z, cc, e⟩ := e
    exact Good.int R (by simp [execOp, ho, hc, ha, hT, e, resolve, invoke, builtin, Builtin.len_, run_underlying hu, goInt])
  · trivial

theorem good_lenM (R : Rel c g h w) (Fr : FRel g h.next nt f a) (o : Oper) (x : X) (cl : Call) (y : Operand) (t k e' : TypeId) (ho : o.op = .call cl) (hc : cl.callee = .builtin .len) (ha : cl.args = #[y]) (hT : cl.argTypes = #[t]) (hx : chkX y x = true)
    (ht : mapT P t = some (k, e')) : Good P c g h w (execOp a.eval o) (step f h (.lenM x)) := by
  simp only [step]
  have e := chkX_rel Fr hx
  have hu := mapT_run ht
  split
  · rename_i hv
    rw [hv] at e; simp only [VRel] at e
    exact Good.int R (by simp [execOp, ho, hc, ha, hT, e, resolve, invoke, builtin, Builtin.len_, run_underlying hu, goInt])
  · rename_i r hv
    rw [hv] at e; simp only [VRel] at e
    split
    · rename_i l hl
      obtain ⟨es, clk, hes, hm⟩ := R.getMap hl
      have hg := run_getMap (P := P) hes
      have hlen := hm.length
      simp at hlen
      exact Good.int R (by simp [execOp, ho, hc, ha, hT, e.2, resolve, invoke, builtin, Builtin.len_, run_underlying hu, goInt, hg, hlen])
    · trivial
  · trivial

theorem good_lenA (R : Rel c g h w) (o : Oper) (n : Nat) (cl : Call) (y : Operand) (t e' : TypeId) (ho : o.op = .call cl) (hc : cl.callee = .builtin .len) (ha : cl.args = #[y]) (hT : cl.argTypes = #[t])
    (ht : P.underlying t = some (.array n e') ∨ ∃ u, P.underlying t = some (.pointer u) ∧ P.underlying u = some (.array n e')) : Good P c g h w (execOp a.eval o) (step f h (.lenA n)) := by
  simp only [step]
  rcases ht with ht | ⟨u, ht, hu⟩
  · exact Good.int R (by simp [execOp, ho, hc, ha, hT, resolve, invoke, builtin, Builtin.len_, run_underlying ht, goInt])
  · exact Good.int R (by simp [execOp, ho, hc, ha, hT, resolve, invoke, builtin, Builtin.len_, run_underlying ht, run_underlying hu, goInt])

theorem good_mx (R : Rel c g h w) (Fr : FRel g h.next nt f a) (o : Oper) (x x' : X) (cl : Call) (y y' : Operand) (ho : o.op = .call cl) (hc : cl.callee = .builtin .max) (ha : cl.args = #[y, y']) (hx : chkX y x = true) (hx' : chkX y' x' = true) :
    Good P c g h w (execOp a.eval o) (step f h (.mx x x')) := by
  simp only [step]
  have e := chkX_rel Fr hx
  have e2 := chkX_rel Fr hx'
  split
  · rename_i k m k' n hv hv'
    rw [hv] at e; rw [hv'] at e2; simp only [VRel] at e e2
    split
    · rename_i hk; subst hk
      exact Good.int R (by simp [execOp, ho, hc, ha, e, e2, resolve, invoke, builtin, Builtin.max_, Builtin.max2, List.foldlM])
    · trivial
  · trivial

theorem good_mn (R : Rel c g h w) (Fr : FRel g h.next nt f a) (o : Oper) (x x' : X) (cl : Call) (y y' : Operand) (ho : o.op = .call cl) (hc : cl.callee = .builtin .min) (ha : cl.args = #[y, y']) (hx : chkX y x = true) (hx' : chkX y' x' = true) :
    Good P c g h w (execOp a.eval o) (step f h (.mn x x')) := by
  simp only [step]
  have e := chkX_rel Fr hx
  have e2 := chkX_rel Fr hx'
  split
  · rename_i k m k' n hv hv'
    rw [hv] at e; rw [hv'] at e2; simp only [VRel] at e e2
    split
    · rename_i hk; subst hk
      exact Good.int R (by simp [execOp, ho, hc, ha, e, e2, resolve, invoke, builtin, Builtin.min_, Builtin.min2, List.foldlM])
    · trivial
  · trivial

theorem bytes_rel {g : G} {N : Nat} : ∀ {l : List V} {xs : List Value} {r : List UInt8}, VsRel g N l xs → bytes? l = some r → ∃ ns : List Int, xs = ns.map (Value.int .u8) ∧ r = ns.map fun n => UInt8.ofNat n.toNat
  | [], xs, r, h, hr => by
    simp only [VsRel] at h; simp [bytes?] at hr; subst h; subst hr; exact ⟨[], rfl, rfl⟩
  | v :: l, xs, r, h, hr => by
    simp only [VsRel] at h
    obtain ⟨y, ys, rfl, hv, hs⟩ := h
    unfold bytes? at hr
    split at hr
    · rename_i he; cases he
    · rename_i n l' he
      injection he with he1 he2
      subst he1; subst he2
      split at hr
      · cases hb : bytes? l with
        | none => simp [hb] at hr
        | some r' =>
          simp [hb] at hr
          obtain ⟨ns, h1, h2⟩ := bytes_rel hs hb
          simp only [VRel] at hv
          exact ⟨n :: ns, by simp [hv, h1], by simp [← hr, h2]⟩
      · cases hr
    · cases hr

theorem good_b2s (R : Rel c g h w) (Fr : FRel g h.next nt f a) (o : Oper) (x : X) (s t e' : TypeId) (y : Operand) (ho : o.op = .convert s t y) (hx : chkX y x = true)
    (hs : elT P s = some e') (he : P.underlying e' = some (.int .u8)) (ht : P.underlying t = some .string) : Good P c g h w (execOp a.eval o) (step f h (.b2s x)) := by
  simp only [step]
  have e := chkX_rel Fr hx
  have hu := elT_run hs
  split
  · rename_i sz n hv
    rw [hv] at e; simp only [VRel] at e
    split
    · refine Good.str R ?_
      have := run_convert_bytes_nil (P := P) w s e' hu he 0 0 t ht
      simp [execOp, ho, e.2, this, ByteArray.empty, ByteArray.emptyWithCapacity]
      rfl
    · trivial
  · rename_i b off sz n hv
    rw [hv] at e; simp only [VRel] at e
    obtain ⟨_, cc, h1, h2, h3, e⟩ := e
    split
    · rename_i l hl
      split
      · rename_i r hr
        obtain ⟨m, hm, hn, hl'⟩ := load_some hl
        obtain ⟨xs, q1, q2, q3⟩ := R.cells hm hn
        rw [← hl'] at q1
        obtain ⟨ns, rfl, rfl⟩ := bytes_rel q1 hr
        have hlen : ns.length = n := by simpa using q2
        have := run_convert_bytes_arg (P := P) w s e' hu he (g.ι b) off n cc ns hlen (fun i hi => by
          have := q3 i (.int .u8 (ns.getD i 0)) (by simp [List.getElem?_eq_getElem (show i < ns.length by omega), List.getD, hlen, hi])
          rwa [add_at] at this) t ht
        refine Good.str R ?_
        simp [execOp, ho, e, this, strOfNums]
      · trivial
    · trivial
  · trivial

/-- What is appended. -/
def newsOf (f : F) (h : H) (sz : Nat) (y : X) : Option (List V × Nat) := match rd f y with
  | .sl none _ n => if n = 0 then some ([], 0) else none
  | .sl0 => some ([], 0)
  | .sle => some ([], 0)
  | .sl (some (b, o)) s m => if s = sz then (match h.load b o (m * sz) with
    | some l => if l.all V.one then some (l, m) else none
    | none => none) else none
  | _ => none

theorem news_rel (R : Rel c g h w) (Fr : FRel g h.next nt f a) {sz : Nat} {y : Operand} {x : X} (hx : chkX y x = true) {ns : List V} {m : Nat} (hn : newsOf f h sz x = some (ns, m)) :
    ∃ src cc, a.eval y = .slice src m cc ∧ ns.length = m * sz ∧ ((m = 0 ∧ ns = []) ∨ ∃ ad xs, src = some ad ∧ VsRel g h.next ns xs ∧ (∀ (j : Nat) (u : Value), xs[j]? = some u → w.cell? (ad.add j) = some u) ∧ ∀ u ∈ xs, u.oneCell' = true) := by
  unfold newsOf at hn
  have e := chkX_rel Fr hx
  split at hn
  · rename_i s n hv
    rw [hv] at e; simp only [VRel] at e
    split at hn
    · simp at hn; obtain ⟨rfl, rfl⟩ := hn
      exact ⟨none, 0, e.2, by simp, .inl ⟨rfl, rfl⟩⟩
    · cases hn
  · rename_i hv
    rw [hv] at e; simp only [VRel] at e
    obtain ⟨z, e⟩ := e
    simp at hn; obtain ⟨rfl, rfl⟩ := hn
    exact ⟨_, _, e, by simp, .inl ⟨rfl, rfl⟩⟩
  · rename_i hv
    rw [hv] at e; simp only [VRel] at e
    obtain ⟨z, cc, e⟩ := e
    simp at hn; obtain ⟨rfl, rfl⟩ := hn
    exact ⟨_, _, e, by simp, .inl ⟨rfl, rfl⟩⟩
  · rename_i b off s n hv
    rw [hv] at e; simp only [VRel] at e
    obtain ⟨_, cc, h1, h2, h3, e⟩ := e
    split at hn
    · rename_i hs; subst hs
      split at hn
      · rename_i l hl
        split at hn
        · rename_i hall
          simp at hn; obtain ⟨rfl, rfl⟩ := hn
          obtain ⟨mm, hm, hlen, hl'⟩ := load_some hl
          obtain ⟨xs, q1, q2, q3⟩ := R.cells hm hlen
          rw [← hl'] at q1
          refine ⟨_, _, e, by rw [hl']; simp; omega, .inr ⟨_, xs, rfl, q1, q3, fun u hu => ?_⟩⟩
          obtain ⟨i, hi, rfl⟩ := List.getElem_of_mem hu
          have hll := q1.length
          obtain ⟨z, hz, hr⟩ := q1.get? (i := i) (u := l[i]'(by omega)) (by simp [show i < l.length by omega])
          rw [List.getElem?_eq_getElem hi] at hz
          injection hz with hz
          rw [hz]
          exact hr.one (by rw [List.all_eq_true] at hall; exact hall _ (by simp))
        · cases hn
      · cases hn
    · cases hn
  · cases hn

/-- A block under a new name. -/
theorem Rel.rename (R : Rel c g h w) {b : Nat} {o : O} (hb : h.get b = some o) (hro : h.ro ≤ b) {tag : Option (Nat × Option Nat)} (htag : ∀ t m, tag = some (t, m) → m = none ∧ ∃ m0, h.ty b = some (t, m0)) : Rel c (setNew g h.next (g.ι b) (g.κ b)) ((h.upd b none).allocT tag o) w := by
  have hag := setNew_agree g h.next (g.ι b) (g.κ b)
  have hnew : (setNew g h.next (g.ι b) (g.κ b)).ι h.next = g.ι b := by simp [setNew]
  have hk : (setNew g h.next (g.ι b) (g.κ b)).κ h.next = g.κ b := by simp [setNew]
  have hlt := R.dom b o hb
  have hget : ∀ d u, ((h.upd b none).allocT tag o).get d = some u → (d = h.next ∧ u = o) ∨ (d < h.next ∧ d ≠ b ∧ h.get d = some u) := by
    intro d u hd
    by_cases e : d = h.next
    · subst e; simp [H.allocT, H.upd] at hd; exact .inl ⟨rfl, hd.symm⟩
    · by_cases e2 : d = b
      · subst e2; simp [H.allocT, H.upd, e] at hd
      · simp [H.allocT, H.upd, e, e2] at hd; exact .inr ⟨R.dom _ _ hd, e2, hd⟩
  refine ⟨?_, ?_, ?_, ?_, R.bel, ?_, ?_⟩
  · intro d u hd
    rcases hget d u hd with ⟨rfl, _⟩ | ⟨h1, _, _⟩ <;> simp [H.allocT, H.upd] <;> omega
  · intro d u hd
    rcases hget d u hd with ⟨rfl, rfl⟩ | ⟨h1, h2, h3⟩
    · obtain ⟨Y, hY, hO⟩ := R.obj b u hb
      refine ⟨Y, by rw [hnew]; exact hY, ?_⟩
      rw [hk]
      have := hO.mono hag (show h.next ≤ h.next + 1 by omega)
      cases u with
      | cells l =>
        obtain ⟨C, e, fr, q1, q2, q3, q4, q5⟩ := this
        exact ⟨C, e, fr, q1, q2, fun _ => q3 hro, q4, q5⟩
      | map l => exact this
    · obtain ⟨Y, hY, hO⟩ := R.obj d u h3
      refine ⟨Y, by rw [(hag d h1).1]; exact hY, ?_⟩
      rw [(hag d h1).2]
      exact hO.mono hag (show h.next ≤ h.next + 1 by omega)
  · intro d d' u u' hd hd' e
    rcases hget d u hd with ⟨rfl, _⟩ | ⟨h1, h2, h3⟩ <;> rcases hget d' u' hd' with ⟨rfl, _⟩ | ⟨h1', h2', h3'⟩
    · rfl
    · rw [hnew, (hag d' h1').1] at e
      exact absurd (R.inj b d' _ _ hb h3' e).symm h2'
    · rw [hnew, (hag d h1).1] at e
      exact absurd (R.inj d b _ _ h3 hb e) h2
    · rw [(hag d h1).1, (hag d' h1').1] at e
      exact R.inj d d' u u' h3 h3' e
  · intro d u hd hr
    rcases hget d u hd with ⟨rfl, _⟩ | ⟨h1, h2, h3⟩
    · rw [hnew]; exact R.own b o hb hro
    · rw [(hag d h1).1]; exact R.own d u h3 hr
  · intro d t n ht
    by_cases e : d = h.next
    · subst e
      simp only [H.allocT, H.upd, if_true] at ht
      obtain ⟨rfl, m0, hm0⟩ := htag _ _ ht
      obtain ⟨_, q2⟩ := R.typ b t m0 hm0
      obtain ⟨C, fr, z1, _⟩ := q2 o hb
      exact ⟨by simp [H.allocT, H.upd], fun u _ => ⟨C, fr, by rw [hnew]; exact z1, fun n hn => by cases hn⟩⟩
    · have ht' : h.ty d = some (t, n) := by simpa [H.allocT, H.upd, e] using ht
      obtain ⟨q1, q2⟩ := R.typ d t n ht'
      refine ⟨by simp [H.allocT, H.upd]; omega, fun u hu => ?_⟩
      rcases hget d u hu with ⟨rfl, _⟩ | ⟨h1, h2, h3⟩
      · omega
      · rw [(hag d h1).1]; exact q2 u h3
  · intro d u hd
    rcases hget d u hd with ⟨rfl, _⟩ | ⟨h1, h2, h3⟩
    · rw [hnew]; exact R.hid b o hb
    · rw [(hag d h1).1]; exact R.hid d u h3

theorem newTag_some {h : H} {e b t : Nat} {m : Option Nat} (hh : newTag h e b = some (t, m)) : t = e ∧ m = none ∧ ∃ m0, h.ty b = some (t, m0) := by
  unfold newTag at hh
  split at hh
  · rename_i t' m' hty
    split at hh
    · rename_i e'
      injection hh with hh
      injection hh with q1 q2
      subst q1; subst q2; subst e'
      exact ⟨rfl, rfl, _, hty⟩
    · cases hh
  · cases hh

theorem app_empty {t ty e : TypeId} {sz : Nat} (ht : elT P t = some e) (hs : szT P e = some sz) (base src : Option Addr) (n cap cc : Nat) (hn : n ≤ cap) :
    (Builtin.append_ #[t, t] ty #[.slice base n cap, .slice src 0 cc]).run P w = .ok (.slice base n cap) w := by
  have hf : (Builtin.firstCells sz 0 (.slice src 0 cc)).run P w = .ok #[] w := by
    cases src <;> simp [Builtin.firstCells, loadCells, loadCellsFrom]
  cases base <;> simp [Builtin.append_, run_underlying (elT_run ht), szT_run hs, Builtin.lenOf, hn, hf, storeCells]

theorem app_room (t ty e : TypeId) (sz : Nat) (ht : P.underlying t = some (.slice e)) (hs : szT P e = some sz)
    (b sLen sCap : Nat) (cur : Array Value) (el : TypeId) (hg : w.heap[b]? = some (.cells cur el (0, 0)))
    (ad : Addr) (m k : Nat) (news : List Value) (hl : news.length = m * sz) (hnews : ∀ (j : Nat) (u : Value), news[j]? = some u → w.cell? (ad.add j) = some u) (h1 : ∀ u ∈ news, u.oneCell' = true)
    (hroom : sLen + m ≤ sCap) (hfit : sLen * sz + news.length ≤ cur.size) :
    (Builtin.append_ #[t, t] ty #[.slice (some ⟨b, 0, none⟩) sLen sCap, .slice (some ad) m k]).run P w =
      .ok (.slice (some ⟨b, 0, none⟩) (sLen + m) sCap) (w.setRow b (cur.toList.take (sLen * sz) ++ news ++ cur.toList.drop (sLen * sz + news.length)).toArray) := by
  have hf := run_firstCells_some (P := P) w sz m ad m k news hl hnews
  have hst := run_storeCells_at P b (sLen * sz) el news 0 cur w hg (by simpa using hfit) h1
  simp only [Nat.add_zero] at hst
  simp [Builtin.append_, run_underlying ht, szT_run hs, Builtin.lenOf, hroom, hf, add_at, hst]

theorem good_app (R : Rel c g h w) (Fr : FRel g h.next nt f a) (o : Oper) (sz bytes : Nat) (z : List V) (x x' : X) (cl : Call) (y y' : Operand) (t e : TypeId) (ho : o.op = .call cl) (hc : cl.callee = .builtin .append) (ha : cl.args = #[y, y']) (hT : cl.argTypes = #[t, t]) (hx : chkX y x = true) (hx' : chkX y' x' = true)
    (ht : elT P t = some e) (hs : szT P e = some sz) (hb : byT P e = some bytes) (hz : zeroIs P e z = true) (hzs : z.length = sz) (hs0 : 0 < sz) : Good P c g h w (execOp a.eval o) (step f h (.app e sz bytes z x x')) := by
  have hrun : ∀ v w', (Builtin.append_ #[t, t] o.type #[a.eval y, a.eval y']).run P w = .ok v w' → (execOp a.eval o).run P w = .ok (.value v) w' := by
    intro v w' hr
    simp [execOp, ho, hc, ha, hT, resolve, invoke, builtin, hr]
  have e1 := chkX_rel Fr hx
  have hu := elT_run ht
  obtain ⟨i, hi, hsz⟩ := info_of hs
  have hby : i.bytes = bytes := by simpa [byT, hi] using hb
  obtain ⟨zv, hzv, hrz⟩ := zero_of hi hz
  have hvs : zv.cells.size = sz := by have := (hrz g h.next).length; simp at this; omega
  show Good P c g h w (execOp a.eval o) (match newsOf f h sz x' with
    | none => .bad
    | some (ns, m) => match rd f x with
      | .sl none _ n => if n = 0 ∧ m * bytes ≤ 140737488355328 ∧ m ≤ 140737488355328 then (if m = 0 then .val (.sl none sz 0) h else .val (.sl (some (h.next, 0)) sz m) (h.allocT (some (e, none)) (.cells ns))) else .bad
      | .sl0 => if m * bytes ≤ 140737488355328 ∧ m ≤ 140737488355328 then (if m = 0 then .val .sl0 h else .val (.sl (some (h.next, 0)) sz m) (h.allocT (some (e, none)) (.cells ns))) else .bad
      | .sl (some (b, 0)) s n => match h.get b with
        | some (.cells l) => if s = sz ∧ n * sz ≤ l.length ∧ h.ro ≤ b ∧ (n + m) * bytes ≤ 140737488355328 ∧ n + m ≤ 140737488355328 then .val (.sl (some (h.next, 0)) sz (n + m)) ((h.upd b none).allocT (newTag h e b) (.cells (l.take (n * sz) ++ ns))) else .bad
        | _ => .bad
      | _ => .bad)
  split
  · trivial
  · rename_i ns m hns
    obtain ⟨src, cc, ey, hnl, hnews⟩ := news_rel R Fr hx' hns
    -- a new block with more room
    have newGood : ∀ (pre : List V) (pres : List Value) (cap : Nat) (v : Value) (h1 : H) (n : Nat) (tag : Option (Nat × Option Nat)), (∀ t' m, tag = some (t', m) → t' = e ∧ m = none) → h1.next = h.next → h1.ro = h.ro → Rel c g h1 w → VsRel g h.next pre pres → pre.length = n * sz → ∀ (nx : List Value), VsRel g h.next ns nx → n + m ≤ cap → cap ≤ maxLen →
        (Builtin.append_ #[t, t] o.type #[a.eval y, a.eval y']).run P w = .ok (.slice (some ⟨w.heap.size, 0, none⟩) (n + m) cap) (w.drew.alloc (.cells (pres.toArray ++ nx.toArray ++ Builtin.zeroCells zv.cells (cap - (n + m))) e)) →
        Good P c g h w (execOp a.eval o) (.val (.sl (some (h.next, 0)) sz (n + m)) (h1.allocT tag (.cells (pre ++ ns)))) := by
      intro pre pres cap v h1 n tag htag hnx hrr R1 hpre hpl nx hnx2 hcap hcm hr
      have hsize : (pres.toArray ++ nx.toArray ++ Builtin.zeroCells zv.cells (cap - (n + m))).size = cap * sz := by
        have l1 := hpre.length
        have l2 := hnx2.length
        simp only [Array.size_append, List.size_toArray, size_zeroCells, hvs]
        rw [← l1, ← l2, hpl, hnl, ← Nat.add_mul, ← Nat.add_mul]
        congr 1; omega
      refine ⟨_, _, setNew g h.next w.heap.size (cap * sz), hrun _ _ hr, ?_, ?_, setNew_agree _ _ _ _, by simp [H.allocT, hnx]⟩
      · have := R1.drew.allocT (o := .cells (pre ++ ns)) (C := pres.toArray ++ nx.toArray ++ Builtin.zeroCells zv.cells (cap - (n + m))) (t := e) (k := cap * sz) (tag := tag) ?_ (fun t' m hm => ⟨(htag t' m hm).1, fun n hn => by rw [(htag t' m hm).2] at hn; cases hn⟩)
        · rw [hnx] at this
          exact this
        · have l1 := hpre.length
          have l2 := hnx2.length
          refine ⟨_, e, (0, 0), rfl, hsize, fun _ => rfl, ?_, ?_⟩
          · rw [hsize]; simp [hpl, hnl, ← Nat.add_mul]; exact Nat.mul_le_mul_right _ hcap
          · rw [hnx]
            have : ((pres.toArray ++ nx.toArray ++ Builtin.zeroCells zv.cells (cap - (n + m))).toList).take (pre ++ ns).length = pres ++ nx := by
              simp only [Array.toList_append, List.length_append, l1, l2]
              rw [List.take_append_of_le_length (by simp)]
              exact List.take_of_length_le (by simp)
            rw [this]
            exact hpre.append hnx2
      · simp only [VRel]
        refine ⟨by simp [H.allocT, hnx], cap, hcap, hcm, by simp [setNew], by simp [setNew]⟩
    split
    · rename_i s n hv
      rw [hv] at e1; simp only [VRel] at e1
      split
      · rename_i hcnd
        obtain ⟨rfl, hc1, hc2⟩ := hcnd
        split
        · rename_i hm0
          subst hm0
          refine Good.pure (x := .slice none 0 0) R (hrun _ _ ?_) (by simp only [VRel]; exact ⟨trivial, trivial⟩)
          rw [e1.2, ey]
          exact app_empty ht hs none src 0 0 cc (Nat.le_refl _)
        · rename_i hm0
          rcases hnews with ⟨h0, _⟩ | ⟨ad, nx, rfl, q1, q2, q3⟩
          · exact absurd h0 hm0
          · have l2 := q1.length
            have hr := run_append_nil (P := P) w t o.type e i zv hu hi hzv ad m cc nx (by rw [hsz]; omega) q2 (by omega) (by omega) (by rw [hby]; omega)
            have hcap := grownCap_ge w m 0 e
            have hcm := grownCap_le_maxLen w m 0 e (by simp only [maxLen]; omega)
            have := newGood [] [] (grownCap w m 0 e) .nilIface h 0 (some (e, none)) (fun t' m hm => by injection hm with hm; injection hm with q1 q2; exact ⟨q1.symm, q2.symm⟩) rfl rfl R (by simp [VsRel]) (by simp) nx q1 (by omega) hcm (by rw [e1.2, ey]; simpa using hr)
            simpa using this
      · trivial
    · rename_i hv
      rw [hv] at e1; simp only [VRel] at e1
      obtain ⟨ad0, e1⟩ := e1
      split
      · rename_i hcnd
        obtain ⟨hc1, hc2⟩ := hcnd
        split
        · rename_i hm0
          subst hm0
          refine Good.pure (x := .slice (some ad0) 0 0) R (hrun _ _ ?_) (by simp only [VRel]; exact ⟨_, rfl⟩)
          rw [e1, ey]
          exact app_empty ht hs (some ad0) src 0 0 cc (Nat.le_refl _)
        · rename_i hm0
          rcases hnews with ⟨h0, _⟩ | ⟨ad, nx, rfl, q1, q2, q3⟩
          · exact absurd h0 hm0
          · have l2 := q1.length
            have hr := run_append_grow (P := P) w t o.type e i zv hu hi hzv ad0 0 0 [] (by simp) (by simp) ad m cc nx (by rw [hsz]; omega) q2 (by omega) (by omega) (growslice_fits (by omega) (by rw [hby, Nat.zero_add]; omega))
            have hcap := grownCap_ge w (0 + m) 0 e
            have hcm := grownCap_le_maxLen w (0 + m) 0 e (by simp only [maxLen]; omega)
            have := newGood [] [] (grownCap w (0 + m) 0 e) .nilIface h 0 (some (e, none)) (fun t' m hm => by injection hm with hm; injection hm with q1 q2; exact ⟨q1.symm, q2.symm⟩) rfl rfl R (by simp [VsRel]) (by simp) nx q1 (by omega) hcm (by rw [e1, ey]; simpa using hr)
            simpa using this
      · trivial
    · rename_i b s n hv
      rw [hv] at e1; simp only [VRel] at e1
      obtain ⟨hbn, cap0, g1, g2, g3, e1⟩ := e1
      split
      · rename_i l hl
        split
        · rename_i hcnd
          obtain ⟨rfl, hc1, hro, hc2, hc3⟩ := hcnd
          obtain ⟨Y, hY, C, el, fr, rfl, hCs, hfr, hCl, hrel⟩ := R.obj b _ hl
          obtain rfl := hfr hro
          have hpre : VsRel g h.next (l.take (n * s)) (C.toList.take (n * s)) := by
            have := hrel.take (n * s)
            rwa [List.take_take, Nat.min_eq_left hc1] at this
          have hpl : (l.take (n * s)).length = n * s := by simp; omega
          have holds : ∀ j u, (C.toList.take (n * s))[j]? = some u → w.cell? ((⟨g.ι b, 0, none⟩ : Addr).add j) = some u := by
            intro j u hu
            rw [add_at]
            simp only [World.cell?, hY]
            rw [List.getElem?_take] at hu
            split at hu
            · simpa using hu
            · cases hu
          have hkill := R.kill b
          by_cases hroom : n + m ≤ cap0
          · -- in place
            have hin : ∃ nx : List Value, VsRel g h.next ns nx ∧ (Builtin.append_ #[t, t] o.type #[a.eval y, a.eval y']).run P w = .ok (.slice (some ⟨g.ι b, 0, none⟩) (n + m) cap0) (w.setRow (g.ι b) (C.toList.take (n * s) ++ nx ++ C.toList.drop (n * s + nx.length)).toArray) := by
              rcases hnews with ⟨rfl, rfl⟩ | ⟨ad, nx, rfl, q1, q2, q3⟩
              · refine ⟨[], by simp [VsRel], ?_⟩
                rw [e1, ey]
                have := app_empty (w := w) (ty := o.type) ht hs (some ⟨g.ι b, 0, none⟩) src n cap0 cc g1
                simp only [Nat.add_zero, List.length_nil, List.append_nil, List.take_append_drop, Array.toArray_toList]
                rw [setRow_self w _ C el (0, 0) hY]
                exact this
              · have l2 := q1.length
                refine ⟨nx, q1, ?_⟩
                rw [e1, ey]
                have hfit : n * i.size + nx.length ≤ C.size := by
                  rw [hsz, ← l2, hnl, ← Nat.add_mul, hCs]
                  have := Nat.mul_le_mul_right s hroom
                  omega
                rw [hsz] at hfit
                have := app_room (P := P) (w := w) t o.type e s hu hs (g.ι b) n cap0 C el hY ad m cc nx (by omega) q2 q3 hroom hfit
                exact this
            obtain ⟨nx, hnx, hr⟩ := hin
            have l2 := hnx.length
            have hCn : n * s + m * s ≤ C.size := by
              rw [← Nat.add_mul, hCs]
              have := Nat.mul_le_mul_right s hroom
              omega
            have R1 := R.set (o' := .cells (l.take (n * s) ++ ns)) (X := .cells (C.toList.take (n * s) ++ nx ++ C.toList.drop (n * s + nx.length)).toArray el (0, 0)) hl hro
              (setRow_heap w _ C _ el _ hY) (fun k hk => setRow_other w _ k _ hk) (by simp) rfl rfl rfl (by
                refine ⟨_, el, (0, 0), rfl, ?_, fun _ => rfl, ?_, ?_⟩
                · simp; omega
                · simp; omega
                · have : ((C.toList.take (n * s) ++ nx ++ C.toList.drop (n * s + nx.length)).toArray.toList).take (l.take (n * s) ++ ns).length = C.toList.take (n * s) ++ nx := by
                    rw [List.take_append_of_le_length (by simp; omega)]
                    exact List.take_of_length_le (by simp; omega)
                  rw [this]
                  exact hpre.append hnx) (fun C' t' fr' hh => by
                rw [hY] at hh
                injection hh with hh
                injection hh with z1 z2 z3
                subst z1; subst z2; subst z3
                exact ⟨_, _, rfl, by simp; omega⟩)
            have R2 := R1.rename (b := b) (o := .cells (l.take (n * s) ++ ns)) (by simp [H.upd]) hro (tag := newTag h e b) (fun t' m hm => ⟨(newTag_some hm).2.1, (newTag_some hm).2.2⟩)
            have hh : (h.upd b (some (.cells (l.take (n * s) ++ ns)))).upd b none = h.upd b none := by
              simp only [H.upd]; congr 1; funext d; by_cases e : d = b <;> simp [e]
            rw [hh] at R2
            refine ⟨_, _, _, hrun _ _ hr, R2, ?_, setNew_agree _ _ _ _, by simp [H.allocT, H.upd]⟩
            simp only [VRel]
            refine ⟨by simp [H.allocT, H.upd], cap0, hroom, g2, ?_, by simp [setNew, H.upd]⟩
            simp [setNew, H.upd]
            omega
          · rcases hnews with ⟨rfl, rfl⟩ | ⟨ad, nx, rfl, q1, q2, q3⟩
            · omega
            · have l2 := q1.length
              have hr := run_append_grow (P := P) w t o.type e i zv hu hi hzv ⟨g.ι b, 0, none⟩ n cap0 (C.toList.take (n * s)) (by rw [hsz]; simp; omega) holds ad m cc nx (by rw [hsz]; omega) q2 (by omega) (by omega) (growslice_fits (by omega) (by rw [hby]; omega))
              have hcap := grownCap_ge w (n + m) cap0 e
              have hcm := grownCap_le_maxLen w (n + m) cap0 e (by simp only [maxLen]; omega)
              exact newGood (l.take (n * s)) (C.toList.take (n * s)) (grownCap w (n + m) cap0 e) .nilIface (h.upd b none) n (newTag h e b) (fun t' m hm => ⟨(newTag_some hm).1, (newTag_some hm).2.1⟩) rfl rfl hkill hpre hpl nx q1 hcap hcm (by rw [e1, ey]; exact hr)
        · trivial
      · trivial
    · trivial
end
end Go.Ab

set_option linter.unusedVariables false
set_option linter.unusedSimpArgs false
namespace Go.Ab
open Go.RowKit
section
variable {P : Program} {c : Base} {g : G} {h : H} {w : World} {nt : NT} {f : F} {a : Act}

theorem u8s_rel (g : G) (N : Nat) (l : List UInt8) : VsRel g N (u8s l) (Lib.strCells ⟨l.toArray⟩) := by
  unfold u8s Lib.strCells
  exact VsRel.map_left l _ _ fun b _ => by simp only [VRel]

theorem run_append_nil_string (t u ty e : TypeId) (i : TypeInfo) (z : Value) (ht : P.underlying t = some (.slice e)) (hu : P.underlying u = some .string) (hi : P.info? e = some i) (hz : i.zero = some z)
    (s : ByteArray) (hg : 0 < s.size) (h63 : (s.size : Int) ≤ 9223372036854775807) (hfit : Builtin.nextslicecap s.size 0 * i.bytes ≤ 281474976710656) :
    (Builtin.append_ #[t, u] ty #[.slice none 0 0, .string s]).run P w =
      .ok (.slice (some ⟨w.heap.size, 0, none⟩) s.size (grownCap w s.size 0 e))
        (w.drew.alloc (.cells ((Lib.strCells s).toArray ++ Builtin.zeroCells z.cells (grownCap w s.size 0 e - s.size)) e)) := by
  have hn : ¬ (s.size ≤ 0) := by omega
  have hn2 : s.size ≠ 0 := by omega
  have h63' : ¬ (9223372036854775807 < (s.size : Int)) := by omega
  have h48' : ¬ (281474976710656 < Builtin.nextslicecap s.size 0 * i.bytes) := by omega
  have hf := Lib.run_firstCells_string (P := P) w.drew i.size s
  have hfo : (Builtin.firstCells i.size 0 (.slice none 0 0)).run P w.drew = .ok #[] w.drew := by simp [Builtin.firstCells]
  simp [Builtin.append_, run_underlying ht, run_underlying hu, sizeOf, typeInfo, zeroValue, hi, hz, Builtin.lenOf, hn, hn2, h63', h48', Question.forced, hf, hfo, newRow, grownCap]

theorem good_appS (R : Rel c g h w) (Fr : FRel g h.next nt f a) (o : Oper) (x x' : X) (cl : Call) (y y' : Operand) (t u e : TypeId) (ho : o.op = .call cl) (hc : cl.callee = .builtin .append) (ha : cl.args = #[y, y']) (hT : cl.argTypes = #[t, u]) (hx : chkX y x = true) (hx' : chkX y' x' = true)
    (ht : elT P t = some e) (hu' : P.underlying u = some .string) (hs : szT P e = some 1) (hb : byT P e = some 1) (hz : zeroIs P e [.int .u8 0] = true) : Good P c g h w (execOp a.eval o) (step f h (.appS e x x')) := by
  have hrun : ∀ v w', (Builtin.append_ #[t, u] o.type #[a.eval y, a.eval y']).run P w = .ok v w' → (execOp a.eval o).run P w = .ok (.value v) w' := by
    intro v w' hr
    simp [execOp, ho, hc, ha, hT, resolve, invoke, builtin, hr]
  have e1 := chkX_rel Fr hx
  have e2 := chkX_rel Fr hx'
  have hu := elT_run ht
  obtain ⟨i, hi, hsz⟩ := info_of hs
  have hby : i.bytes = 1 := by simpa [byT, hi] using hb
  obtain ⟨zv, hzv, hrz⟩ := zero_of hi hz
  have hvs : zv.cells.size = 1 := by have := (hrz g h.next).length; simp at this; omega
  simp only [step]
  split
  · rename_i l hl
    rw [hl] at e2; simp only [VRel] at e2
    have hnx := u8s_rel g h.next l
    have hll : (Lib.strCells ⟨l.toArray⟩).length = l.length := by simp [Lib.strCells]
    have hul : (u8s l).length = l.length := by simp [u8s]
    have hsz2 : (⟨l.toArray⟩ : ByteArray).size = l.length := by simp [ByteArray.size]
    have newGood : ∀ (pre : List V) (pres : List Value) (cap : Nat) (h1 : H) (n : Nat) (tag : Option (Nat × Option Nat)), (∀ t' m, tag = some (t', m) → t' = e ∧ m = none) → h1.next = h.next → h1.ro = h.ro → Rel c g h1 w → VsRel g h.next pre pres → pre.length = n → n + l.length ≤ cap → cap ≤ maxLen →
        (Builtin.append_ #[t, u] o.type #[a.eval y, a.eval y']).run P w = .ok (.slice (some ⟨w.heap.size, 0, none⟩) (n + l.length) cap) (w.drew.alloc (.cells (pres.toArray ++ (Lib.strCells ⟨l.toArray⟩).toArray ++ Builtin.zeroCells zv.cells (cap - (n + l.length))) e)) →
        Good P c g h w (execOp a.eval o) (.val (.sl (some (h.next, 0)) 1 (n + l.length)) (h1.allocT tag (.cells (pre ++ u8s l)))) := by
      intro pre pres cap h1 n tag htag hnx1 hrr R1 hpre hpl hcap hcm hr
      have l1 := hpre.length
      have hsize : (pres.toArray ++ (Lib.strCells ⟨l.toArray⟩).toArray ++ Builtin.zeroCells zv.cells (cap - (n + l.length))).size = cap * 1 := by
        simp only [Array.size_append, List.size_toArray, size_zeroCells, hvs, hll]
        omega
      refine ⟨_, _, setNew g h.next w.heap.size (cap * 1), hrun _ _ hr, ?_, ?_, setNew_agree _ _ _ _, by simp [H.allocT, hnx1]⟩
      · have := R1.drew.allocT (o := .cells (pre ++ u8s l)) (C := pres.toArray ++ (Lib.strCells ⟨l.toArray⟩).toArray ++ Builtin.zeroCells zv.cells (cap - (n + l.length))) (t := e) (k := cap * 1) (tag := tag) ?_ (fun t' m hm => ⟨(htag t' m hm).1, fun n hn => by rw [(htag t' m hm).2] at hn; cases hn⟩)
        · rw [hnx1] at this
          exact this
        · refine ⟨_, e, (0, 0), rfl, hsize, fun _ => rfl, ?_, ?_⟩
          · rw [hsize]; simp [hpl, hul]; omega
          · rw [hnx1]
            have : ((pres.toArray ++ (Lib.strCells ⟨l.toArray⟩).toArray ++ Builtin.zeroCells zv.cells (cap - (n + l.length))).toList).take (pre ++ u8s l).length = pres ++ Lib.strCells ⟨l.toArray⟩ := by
              simp only [Array.toList_append, List.length_append, l1, hul]
              rw [List.take_append_of_le_length (by simp [hll])]
              exact List.take_of_length_le (by simp [hll])
            rw [this]
            exact hpre.append hnx
      · simp only [VRel]
        refine ⟨by simp [H.allocT, hnx1], cap, hcap, hcm, by simp [setNew], by simp [setNew]⟩
    split
    · rename_i s n hv
      rw [hv] at e1; simp only [VRel] at e1
      split
      · rename_i hcnd
        obtain ⟨rfl, hc1⟩ := hcnd
        split
        · rename_i hm0
          have : l = [] := List.eq_nil_of_length_eq_zero hm0
          subst this
          refine Good.pure (x := .slice none 0 0) R (hrun _ _ ?_) (by simp only [VRel]; exact ⟨trivial, trivial⟩)
          rw [e1.2, e2]
          have hf := Lib.run_firstCells_string (P := P) w i.size ⟨#[]⟩
          have z0 : (⟨#[]⟩ : ByteArray).size = 0 := rfl
          rw [z0] at hf
          simp [Builtin.append_, run_underlying hu, run_underlying hu', szT_run hs, hsz, Builtin.lenOf, z0, Builtin.firstCells]
        · rename_i hm0
          have hr := run_append_nil_string (P := P) (w := w) t u o.type e i zv hu hu' hi hzv ⟨l.toArray⟩ (by rw [hsz2]; omega) (by rw [hsz2]; omega) (by rw [hsz2, hby]; exact growslice_fits (by omega) (by omega))
          rw [hsz2] at hr
          have hcap := grownCap_ge w l.length 0 e
          have hcm := grownCap_le_maxLen w l.length 0 e (by simp only [maxLen]; omega)
          have := newGood [] [] (grownCap w l.length 0 e) h 0 (some (e, none)) (fun t' m hm => by injection hm with hm; injection hm with q1 q2; exact ⟨q1.symm, q2.symm⟩) rfl rfl R (by simp [VsRel]) rfl (by omega) hcm (by rw [e1.2, e2]; simpa using hr)
          simpa using this
      · trivial
    · rename_i b s n hv
      rw [hv] at e1; simp only [VRel] at e1
      obtain ⟨hbn, cap0, g1, g2, g3, e1⟩ := e1
      split
      · rename_i m hm
        split
        · rename_i hcnd
          obtain ⟨rfl, hc1, hro, hc3⟩ := hcnd
          obtain ⟨Y, hY, C, el, fr, rfl, hCs, hfr, hCl, hrel⟩ := R.obj b _ hm
          obtain rfl := hfr hro
          have hpre : VsRel g h.next (m.take n) (C.toList.take n) := by
            have := hrel.take n
            rwa [List.take_take, Nat.min_eq_left hc1] at this
          have hpl : (m.take n).length = n := by simp; omega
          have holds : ∀ j v, (C.toList.take n)[j]? = some v → w.cell? ((⟨g.ι b, 0, none⟩ : Addr).add j) = some v := by
            intro j v hv
            rw [add_at]
            simp only [World.cell?, hY]
            rw [List.getElem?_take] at hv
            split at hv
            · simpa using hv
            · cases hv
          have hkill := R.kill b
          by_cases hroom : n + l.length ≤ cap0
          · have hst := run_storeCells_at P (g.ι b) n el (Lib.strCells ⟨l.toArray⟩) 0 C w hY (by rw [hll]; omega) (Lib.strCells_oneCell _)
            have hr : (Builtin.append_ #[t, u] o.type #[a.eval y, a.eval y']).run P w = .ok (.slice (some ⟨g.ι b, 0, none⟩) (n + l.length) cap0) (w.setRow (g.ι b) (C.toList.take n ++ Lib.strCells ⟨l.toArray⟩ ++ C.toList.drop (n + (Lib.strCells ⟨l.toArray⟩).length)).toArray) := by
              rw [e1, e2]
              have hf := Lib.run_firstCells_string (P := P) w 1 ⟨l.toArray⟩
              simp only [Nat.add_zero] at hst
              rw [hsz2] at hf
              simp [Builtin.append_, run_underlying hu, run_underlying hu', szT_run hs, Builtin.lenOf, hsz2, hroom, hf, add_at, hst]
            have hCn : n + l.length ≤ C.size := by omega
            have R1 := R.set (o' := .cells (m.take n ++ u8s l)) (X := .cells (C.toList.take n ++ Lib.strCells ⟨l.toArray⟩ ++ C.toList.drop (n + (Lib.strCells ⟨l.toArray⟩).length)).toArray el (0, 0)) hm hro
              (setRow_heap w _ C _ el _ hY) (fun k hk => setRow_other w _ k _ hk) (by simp) rfl rfl rfl (by
                refine ⟨_, el, (0, 0), rfl, ?_, fun _ => rfl, ?_, ?_⟩
                · simp [hll]; omega
                · simp [hll, hul]; omega
                · have : ((C.toList.take n ++ Lib.strCells ⟨l.toArray⟩ ++ C.toList.drop (n + (Lib.strCells ⟨l.toArray⟩).length)).toArray.toList).take (m.take n ++ u8s l).length = C.toList.take n ++ Lib.strCells ⟨l.toArray⟩ := by
                    rw [List.take_append_of_le_length (by simp [hll, hul]; omega)]
                    exact List.take_of_length_le (by simp [hll, hul]; omega)
                  rw [this]
                  exact hpre.append hnx) (fun C' t' fr' hh => by
                rw [hY] at hh
                injection hh with hh
                injection hh with z1 z2 z3
                subst z1; subst z2; subst z3
                exact ⟨_, _, rfl, by simp [hll]; omega⟩)
            have R2 := R1.rename (b := b) (o := .cells (m.take n ++ u8s l)) (by simp [H.upd]) hro (tag := newTag h e b) (fun t' m hm => ⟨(newTag_some hm).2.1, (newTag_some hm).2.2⟩)
            have hh : (h.upd b (some (.cells (m.take n ++ u8s l)))).upd b none = h.upd b none := by
              simp only [H.upd]; congr 1; funext d; by_cases e : d = b <;> simp [e]
            rw [hh] at R2
            refine ⟨_, _, _, hrun _ _ hr, R2, ?_, setNew_agree _ _ _ _, by simp [H.allocT, H.upd]⟩
            simp only [VRel]
            refine ⟨by simp [H.allocT, H.upd], cap0, hroom, g2, ?_, by simp [setNew, H.upd]⟩
            simp [setNew, H.upd]
            omega
          · have hr := Lib.run_append_grow_string (P := P) w t u o.type e i zv hu hu' hi hzv ⟨g.ι b, 0, none⟩ n cap0 (C.toList.take n) (by rw [hsz]; simp; omega) holds ⟨l.toArray⟩ (by rw [hsz2]; omega) (by rw [hsz2]; omega) (by rw [hsz2, hby]; exact growslice_fits (by omega) (by omega))
            rw [hsz2] at hr
            have hcap := grownCap_ge w (n + l.length) cap0 e
            have hcm := grownCap_le_maxLen w (n + l.length) cap0 e (by simp only [maxLen]; omega)
            exact newGood (m.take n) (C.toList.take n) (grownCap w (n + l.length) cap0 e) (h.upd b none) n (newTag h e b) (fun t' m hm => ⟨(newTag_some hm).1, (newTag_some hm).2.1⟩) rfl rfl hkill hpre hpl hcap hcm (by rw [e1, e2]; exact hr)
        · trivial
      · trivial
    · trivial
  · trivial

theorem good_copy (R : Rel c g h w) (Fr : FRel g h.next nt f a) (o : Oper) (sz : Nat) (x x' : X) (cl : Call) (y y' : Operand) (t e : TypeId) (l0 : List TypeId) (ho : o.op = .call cl) (hc : cl.callee = .builtin .copy) (ha : cl.args = #[y, y']) (hT : cl.argTypes = (t :: l0).toArray) (hx : chkX y x = true) (hx' : chkX y' x' = true)
    (ht : elT P t = some e) (hs : szT P e = some sz) : Good P c g h w (execOp a.eval o) (step f h (.copy sz x x')) := by
  have e1 := chkX_rel Fr hx
  have e2 := chkX_rel Fr hx'
  have hu := elT_run ht
  simp only [step]
  split
  · rename_i b off s n b' off' s' n' hv hv'
    rw [hv] at e1; rw [hv'] at e2
    simp only [VRel] at e1 e2
    obtain ⟨_, c1, q1, q2, q3, e1⟩ := e1
    obtain ⟨_, c2, p1, p2, p3, e2⟩ := e2
    split
    · rename_i hss
      obtain ⟨rfl, hss⟩ := hss
      split
      · rename_i l hl
        split
        · rename_i h' hst
          obtain ⟨X, hX, hXr, hXs⟩ := R.loadCells (P := P) hl
          obtain ⟨w', hrun, R', hnx⟩ := R.store (P := P) hst hXr
          refine ⟨.int .i64 (min n' n : Nat), w', g, ?_, R', by rw [hnx]; simp only [VRel], Agree.refl _ _, by omega⟩
          · have hX' : (loadCells { block := g.ι b', off := off' } (Nat.min n' n * s)).run P w = .ok X w := hX
            simp [execOp, ho, hc, ha, hT, resolve, invoke, builtin, Builtin.copy_, e1, e2, run_underlying hu, Builtin.lenOf, szT_run hs, Builtin.firstCells, hX', hrun, goInt]
        · trivial
      · trivial
    · trivial
  · trivial

theorem good_clr (R : Rel c g h w) (Fr : FRel g h.next nt f a) (o : Oper) (sz : Nat) (z : List V) (x : X) (cl : Call) (y : Operand) (t e : TypeId) (ho : o.op = .call cl) (hc : cl.callee = .builtin .clear) (ha : cl.args = #[y]) (hT : cl.argTypes = #[t]) (hx : chkX y x = true)
    (ht : elT P t = some e) (hs : szT P e = some sz) (hz : zeroIs P e z = true) : Good P c g h w (execOp a.eval o) (step f h (.clr sz z x)) := by
  have e1 := chkX_rel Fr hx
  have hu := elT_run ht
  obtain ⟨zv, hzv, hrz⟩ := zeroIs_run (w := w) hz
  have hrun : ∀ v w', (Builtin.clear_ #[t] o.type #[a.eval y]).run P w = .ok v w' → (execOp a.eval o).run P w = .ok (.value v) w' := by
    intro v w' hr
    simp [execOp, ho, hc, ha, hT, resolve, invoke, builtin, hr]
  have unit : VRel g h.next (.tup []) (.tuple #[]) := by simp [VRel, VsRel]
  simp only [step]
  split
  · rename_i s n hv
    rw [hv] at e1; simp only [VRel] at e1
    exact Good.pure R (hrun _ _ (by rw [e1.2]; simp [Builtin.clear_, run_underlying hu])) unit
  · rename_i hv
    rw [hv] at e1; simp only [VRel] at e1
    obtain ⟨ad, e1⟩ := e1
    exact Good.pure R (hrun _ _ (by rw [e1]; simp [Builtin.clear_, run_underlying hu])) unit
  · rename_i hv
    rw [hv] at e1; simp only [VRel] at e1
    obtain ⟨ad, cc, e1⟩ := e1
    exact Good.pure R (hrun _ _ (by rw [e1]; simp [Builtin.clear_, run_underlying hu])) unit
  · rename_i b off s n hv
    rw [hv] at e1; simp only [VRel] at e1
    obtain ⟨_, c1, q1, q2, q3, e1⟩ := e1
    split
    · rename_i hss
      subst hss
      split
      · rename_i hn
        subst hn
        exact Good.pure R (hrun _ _ (by rw [e1]; simp [Builtin.clear_, run_underlying hu])) unit
      · rename_i hn
        split
        · rename_i h' hst
          obtain ⟨w', hr, R', hnx⟩ := R.store (P := P) hst (made_rel (hrz g h.next) n)
          refine ⟨.tuple #[], w', g, hrun _ _ ?_, R', by rw [hnx]; exact unit, Agree.refl _ _, by omega⟩
          rw [e1]
          cases n with
          | zero => exact absurd rfl hn
          | succ n =>
            simp [Builtin.clear_, run_underlying hu, hzv, Builtin.zeroCells] at hr ⊢
            simp [hr]
        · trivial
    · trivial
  · trivial

theorem shape_of (R : Rel c g h w) {b : Nat} {l : List V} (hb : h.get b = some (.cells l)) : ∃ e n, w.shape? (g.ι b) = some (e, n) ∧ l.length ≤ n := by
  obtain ⟨Y, hY, C, el, fr, rfl, hCs, hfr, hCl, hrel⟩ := R.obj b _ hb
  exact ⟨el, C.size, by simp [World.shape?, hY], hCl⟩

def unsT (P : Program) (s t : TypeId) : Bool := match P.underlying s, P.underlying t with
  | some (.pointer e), some .unsafePointer => match P.info? e with
    | some j => j.size != 0
    | none => false
  | _, _ => false

theorem good_upt (R : Rel c g h w) (Fr : FRel g h.next nt f a) (o : Oper) (x : X) (s t : TypeId) (y : Operand) (ho : o.op = .convert s t y) (hx : chkX y x = true) (ht : unsT P s t = true) : Good P c g h w (execOp a.eval o) (step f h (.upt x)) := by
  have e1 := chkX_rel Fr hx
  simp only [step]
  split
  · rename_i b off hv
    rw [hv] at e1; simp only [VRel] at e1
    split
    · rename_i l hl
      split
      · rename_i hoff
        obtain ⟨e, n, h1, h2⟩ := shape_of R hl
        unfold unsT at ht
        split at ht
        · rename_i p q hs hd
          split at ht
          · rename_i j hj
            refine Good.pure (x := .pointer (some ⟨g.ι b, off, none⟩)) R ?_ (by simp only [VRel]; exact ⟨e1.1, trivial⟩)
            have := Lib.run_to_unsafe (P := P) w (cells := n) ⟨g.ι b, off, none⟩ hs hd hj (by simpa using ht) h1 (by show off < n; omega)
            simp [execOp, ho, e1.2, this]
          · cases ht
        · cases ht
      · trivial
    · trivial
  · trivial

def ufpT (P : Program) (ts : List (Nat × Nat × Nat)) (s t : TypeId) : Bool := match P.underlying s, P.underlying t with
  | some .unsafePointer, some (.pointer u) => (P.info? u).isSome && ts.all fun (p : Nat × Nat × Nat) => liesAt P P.depth p.1 (p.2.1 / P.cellsOf p.1) p.2.2 u 1
  | _, _ => false

theorem good_ufp (R : Rel c g h w) (Fr : FRel g h.next nt f a) (o : Oper) (ts : List (Nat × Nat × Nat)) (x : X) (s t : TypeId) (y : Operand) (ho : o.op = .convert s t y) (hx : chkX y x = true) (ht : ufpT P ts s t = true) : Good P c g h w (execOp a.eval o) (step f h (.ufp ts x)) := by
  have e1 := chkX_rel Fr hx
  simp only [step]
  split
  · rename_i b off hv
    rw [hv] at e1; simp only [VRel] at e1
    split
    · rename_i ty n l hty hl
      split
      · rename_i hin
        obtain ⟨_, hT⟩ := R.typ b ty (some n) hty
        obtain ⟨C, fr, h1, h2⟩ := hT _ hl
        have hsh : w.shape? (g.ι b) = some (ty, n) := by simp [World.shape?, h1, h2 n rfl]
        unfold ufpT at ht
        split at ht
        · rename_i u hs hd
          simp only [Bool.and_eq_true] at ht
          obtain ⟨hj, hall⟩ := ht
          rw [List.all_eq_true] at hall
          have hli := hall (ty, n, off) (by simpa using hin)
          cases hju : P.info? u with
          | none => simp [hju] at hj
          | some j =>
            refine Good.pure (x := .pointer (some ⟨g.ι b, off, none⟩)) R ?_ (by simp only [VRel]; exact ⟨e1.1, trivial⟩)
            have := Lib.run_from_unsafe (P := P) w ⟨g.ι b, off, none⟩ hs hd hju hsh hli
            simp [execOp, ho, e1.2, this]
        · cases ht
      · trivial
    · trivial
  · trivial

def noeT (P : Program) (k : Nat) : Bool := match P.funcs[k]? with
  | some fn => fn.body.isNone && fn.name == "internal/abi.NoEscape" && fn.origin == ""
  | none => false

theorem find_noe {fn : Func} (hn : fn.name = "internal/abi.NoEscape") : Extern.find fn = some Extern.AbiNoEscape.same := by
  unfold Extern.find
  simp only [hn]
  have h1 : Extern.allGenericRows.lookup "internal/abi.NoEscape" = none := by kernel_rfl
  have h2 : Extern.allTypedRows.lookup "internal/abi.NoEscape" = none := by kernel_rfl
  have h3 : Extern.allRows.lookup "internal/abi.NoEscape" = some Extern.AbiNoEscape.same := by kernel_rfl
  rw [h1, h2, h3]; rfl

theorem good_noe (R : Rel c g h w) (Fr : FRel g h.next nt f a) (o : Oper) (x : X) (cl : Call) (y : Operand) (k : Nat) (ho : o.op = .call cl) (hc : cl.callee = .value (.func k)) (ha : cl.args = #[y]) (hx : chkX y x = true) (hk : noeT P k = true) : Good P c g h w (execOp a.eval o) (step f h (.noe x)) := by
  unfold noeT at hk
  split at hk
  · rename_i fn hf
    simp only [Bool.and_eq_true, beq_iff_eq] at hk
    obtain ⟨hk, hor⟩ := hk
    have hnx : Extern.findNext fn = none := by
      unfold Extern.findNext
      simp only [hk.2, hor]
      have h1 : Extern.allNextRows.lookup "internal/abi.NoEscape" = none := by kernel_rfl
      have h2 : Extern.allNextRows.lookup "" = none := by kernel_rfl
      rw [h1, h2]; rfl
    have := run_callFunc_extern (P := P) (w := w) hf (by rw [hk.2]; decide) hk.1 hnx (find_noe hk.2) #[a.eval y]
    refine Good.pure R ?_ (chkX_rel Fr hx)
    have e2 : a.eval (.func k) = .func (.func k) #[] #[] := rfl
    simp [execOp, ho, hc, ha, resolve, invoke, e2, Deferred.ofValue, this, Lib.run_noEscape]
  · cases hk

theorem bytes_at : ∀ {l : List V} {r : List UInt8} {j : Nat} {n : Int}, bytes? l = some r → (∃ v, l[j]? = some v ∧ v = .int .u8 n) → 0 ≤ n ∧ n < 256
  | [], r, j, n, h, ⟨v, hv, _⟩ => by simp at hv
  | a :: l, r, j, n, h, ⟨v, hv, hvn⟩ => by
    unfold bytes? at h
    split at h
    · rename_i heq; cases heq
    · rename_i m l' heq
      injection heq with e1 e2
      subst e1; subst e2
      split at h
      · rename_i hm
        cases j with
        | zero => simp at hv; subst hv; injection hvn with _ q; subst q; exact hm
        | succ j =>
          cases hb : bytes? l with
          | none => simp [hb] at h
          | some r' => exact bytes_at hb ⟨v, by simpa using hv, hvn⟩
      · cases h
    · cases h

theorem u8_of_rel {g : G} {N : Nat} : ∀ {l : List V} {r : List UInt8} {j : Nat} {n : Int} (hr : bytes? l = some r) (hj : j < l.length), VRel g N l[j] (.int .u8 n) → l[j] = .int .u8 n
  | [], r, j, n, hr, hj, _ => by simp at hj
  | a :: l, r, j, n, h, hj, hrel => by
    unfold bytes? at h
    split at h
    · rename_i heq; cases heq
    · rename_i m l' heq
      injection heq with e1 e2
      subst e1; subst e2
      split at h
      · cases j with
        | zero => simp only [List.getElem_cons_zero, VRel] at hrel ⊢; injection hrel with q1 q2; rw [q2]
        | succ j =>
          cases hb : bytes? l with
          | none => simp [hb] at h
          | some r' => exact u8_of_rel hb (by simpa using hj) (by simpa using hrel)
      · cases h
    · cases h

/-- A block is written in a way that nobody need know, and forgotten. -/
theorem Rel.lose (R : Rel c g h w) {b : Nat} {o : O} {w' : World} (hb : h.get b = some o) (hro : h.ro ≤ b) (hoth : ∀ k, k ≠ g.ι b → w'.heap[k]? = w.heap[k]?) (hsz : w.heap.size ≤ w'.heap.size)
    (hos : w'.os = w.os) (ht : w'.tape = w.tape) (hout : w'.output = w.output) : Rel c g (h.upd b none) w' := by
  have hget : ∀ d u, (h.upd b none).get d = some u → d ≠ b ∧ h.get d = some u := by
    intro d u hd
    by_cases e : d = b
    · subst e; simp [H.upd] at hd
    · exact ⟨e, by simpa [H.upd, e] using hd⟩
  have hne : ∀ d u, (h.upd b none).get d = some u → w'.heap[g.ι d]? = w.heap[g.ι d]? := by
    intro d u hd
    obtain ⟨h1, h2⟩ := hget d u hd
    exact hoth _ fun e => h1 (R.inj d b u o h2 hb e)
  refine ⟨fun d u hd => R.dom d u (hget d u hd).2, fun d u hd => ?_, fun d d' u u' hd hd' e => R.inj d d' u u' (hget d u hd).2 (hget d' u' hd').2 e, fun d u hd hr => R.own d u (hget d u hd).2 hr, ?_, fun d t m hm => ⟨(R.typ d t m hm).1, fun u hu => ?_⟩, fun d u hd => R.hid d u (hget d u hd).2⟩
  · obtain ⟨X, h1, h2⟩ := R.obj d u (hget d u hd).2
    exact ⟨X, (hne d u hd).trans h1, h2⟩
  · have hge := R.own b o hb hro
    refine ⟨hos.trans R.bel.os, ht.trans R.bel.tape, hout.trans R.bel.output, Nat.le_trans R.bel.size hsz, fun i hi => ?_⟩
    rw [hoth i (fun e => hge (e ▸ hi))]; exact R.bel.block i hi
  · obtain ⟨C, fr, h1, h2⟩ := (R.typ d t m hm).2 u (hget d u hu).2
    exact ⟨C, fr, (hne d u hu).trans h1, h2⟩

theorem good_usd (R : Rel c g h w) (Fr : FRel g h.next nt f a) (o : Oper) (x : X) (cl : Call) (y : Operand) (l0 : List TypeId) (ho : o.op = .call cl) (hc : cl.callee = .builtin .unsafeSliceData) (ha : cl.args = #[y]) (hT : cl.argTypes = l0.toArray) (hx : chkX y x = true) : Good P c g h w (execOp a.eval o) (step f h (.usd x)) := by
  have e1 := chkX_rel Fr hx
  have hrun : ∀ v w', (Builtin.unsafeSliceData_ l0.toArray o.type #[a.eval y]).run P w = .ok v w' → (execOp a.eval o).run P w = .ok (.value v) w' := by
    intro v w' hr
    simp [execOp, ho, hc, ha, hT, resolve, invoke, builtin, hr]
  simp only [step]
  split
  · rename_i hv
    rw [hv] at e1; simp only [VRel] at e1
    exact Good.pure R (hrun _ _ (by rw [e1.2]; exact Lib.run_unsafeSliceData_nil w _ _ _ _)) (by simp only [VRel])
  · rename_i b off s n hv
    rw [hv] at e1; simp only [VRel] at e1
    obtain ⟨hb, c1, q1, q2, q3, e1⟩ := e1
    split
    · trivial
    · rename_i hn
      exact Good.pure R (hrun _ _ (by rw [e1]; exact Lib.run_unsafeSliceData_row w _ _ _ _ _ (by omega))) (by simp only [VRel]; exact ⟨hb, trivial⟩)
  · trivial

theorem good_ustr (R : Rel c g h w) (Fr : FRel g h.next nt f a) (o : Oper) (e : Nat) (x x' : X) (cl : Call) (y y' : Operand) (pt it : TypeId) (ho : o.op = .call cl) (hc : cl.callee = .builtin .unsafeString) (ha : cl.args = #[y, y']) (hT : cl.argTypes = #[pt, it]) (hx : chkX y x = true) (hx' : chkX y' x' = true)
    (hp : P.underlying pt = some (.pointer e)) (hce : P.cellsOf e = 1) : Good P c g h w (execOp a.eval o) (step f h (.ustr e x x')) := by
  have e1 := chkX_rel Fr hx
  have e2 := chkX_rel Fr hx'
  have hrun : ∀ v w', (Builtin.unsafeString_ #[pt, it] o.type #[a.eval y, a.eval y']).run P w = .ok v w' → (execOp a.eval o).run P w = .ok (.value v) w' := by
    intro v w' hr
    simp [execOp, ho, hc, ha, hT, resolve, invoke, builtin, hr]
  simp only [step]
  split
  · rename_i n hv hv'
    rw [hv] at e1; rw [hv'] at e2
    simp only [VRel] at e1 e2
    split
    · rename_i hn
      subst hn
      exact Good.str R (hrun _ _ (by rw [e1, e2]; exact Lib.run_unsafeString_none w _ _ _ _))
    · trivial
  · rename_i b n hv hv'
    rw [hv] at e1; rw [hv'] at e2
    simp only [VRel] at e1 e2
    split
    · rename_i t m l hty hl
      split
      · rename_i hcnd
        obtain ⟨rfl, hro, hn0, hn63⟩ := hcnd
        split
        · rename_i r hr
          obtain ⟨ml, hm, hlen, hl'⟩ := load_some hl
          obtain ⟨xs, q1, q2, q3⟩ := R.cells hm hlen
          rw [← hl'] at q1
          obtain ⟨ns, hxs, hrn⟩ := bytes_rel q1 hr
          have hll : l.length = n := by rw [hl']; simp; omega
          have hrl : r.length = n := by
            have := q1.length
            rw [hrn]; rw [hxs] at this; simp at this; simp; omega
          obtain ⟨C, fr, z1, _⟩ := (R.typ b t m hty).2 _ hm
          obtain ⟨Y, hY, C', el, fr', hYc, hCs, hfr, hCl, hrel⟩ := R.obj b _ hm
          rw [z1] at hY
          injection hY with hY
          rw [hYc] at hY
          injection hY with w1 w2 w3
          subst w1; subst w2; subst w3
          have hcell : ∀ j x, r[j]? = some x → w.cell? ((⟨g.ι b, 0, none⟩ : Addr).add j) = some (.int .u8 x.toNat) := by
            intro j x hj
            rw [hrn, List.getElem?_map] at hj
            cases hnj : ns[j]? with
            | none => simp [hnj] at hj
            | some nj =>
              simp [hnj] at hj
              have hb := bytes_at hr (j := j) (n := nj) (by
                have hx2 : xs[j]? = some (.int .u8 nj) := by rw [hxs]; simp [hnj]
                have hlj : j < l.length := by
                  have := (List.getElem?_eq_some_iff.1 hx2).1
                  have := q1.length; omega
                obtain ⟨z, hz, hzr⟩ := q1.get? (i := j) (u := l[j]) (by simp [hlj])
                rw [hx2] at hz
                injection hz with hz
                subst hz
                refine ⟨l[j], by simp [hlj], ?_⟩
                exact u8_of_rel hr hlj hzr)
              have := q3 j (.int .u8 nj) (by rw [hxs]; simp [hnj])
              rw [this, ← hj]
              congr 2
              have h0 := hb.1
              have h1 := hb.2
              have : (UInt8.ofNat nj.toNat).toNat = nj.toNat := by
                simp [UInt8.toNat_ofNat']
                omega
              rw [this]; omega
          have hus := Lib.run_unsafeString_row (P := P) w pt it o.type t hp hce (g.ι b) C.size (by simp [World.shape?, z1]) r (by intro e; rw [e] at hrl; simp at hrl; omega) (by omega) (by unfold BIG at hn63; omega) hcell
          refine ⟨.string ⟨r.toArray⟩, _, g, hrun _ _ ?_, R.lose (w' := w.freeze ⟨g.ι b, 0, none⟩ r.length) hm hro ?_ ?_ ?_ ?_ ?_, by simp only [VRel], Agree.refl _ _, Nat.le_refl _⟩
          · rw [e1.2, e2]
            rw [← hrl]
            exact hus
          · intro k hk
            have hr0 : r.length ≠ 0 := by omega
            simp only [World.freeze, hr0, if_false]
            rw [Array.getElem?_modify]
            have : ¬ g.ι b = k := fun e => hk e.symm
            simp [this]
          · have hr0 : r.length ≠ 0 := by omega
            simp [World.freeze, hr0]
          · have hr0 : r.length ≠ 0 := by omega
            simp [World.freeze, hr0]
          · have hr0 : r.length ≠ 0 := by omega
            simp [World.freeze, hr0]
          · have hr0 : r.length ≠ 0 := by omega
            simp [World.freeze, hr0]
        · trivial
      · trivial
    · trivial
  · trivial
end
end Go.Ab

set_option linter.unusedVariables false
set_option linter.unusedSimpArgs false
namespace Go.Ab
open Go.RowKit

def binIs (op : BinOp) (neg : Bool) : Bool := match op, neg with
  | .neq, true => true
  | .eql, false => true
  | _, _ => false
theorem binIs_eq {op : BinOp} {neg : Bool} (h : binIs op neg = true) : op = if neg then .neq else .eql := by
  cases op <;> cases neg <;> simp [binIs] at h <;> rfl

theorem binBeq : ∀ a b : BinOp, (a == b) = true → a = b := by intro a b; cases a <;> cases b <;> first | (intro _; rfl) | (intro h; exact absurd h (by decide))
theorem unBeq : ∀ a b : UnOp, (a == b) = true → a = b := by intro a b; cases a <;> cases b <;> first | (intro _; rfl) | (intro h; exact absurd h (by decide))

def isIntT (P : Program) (t : TypeId) (k : IntKind) : Bool := match P.underlying t with
  | some (.int k') => k == k'
  | _ => false
def isStrT (P : Program) (t : TypeId) : Bool := match P.underlying t with
  | some .string => true
  | _ => false
def isBoolT (P : Program) (t : TypeId) : Bool := match P.underlying t with
  | some .bool => true
  | _ => false
theorem isIntT_eq {P : Program} {t : TypeId} {k : IntKind} (h : isIntT P t k = true) : P.underlying t = some (.int k) := by
  unfold isIntT at h; split at h <;> simp_all
theorem isStrT_eq {P : Program} {t : TypeId} (h : isStrT P t = true) : P.underlying t = some .string := by
  unfold isStrT at h; split at h <;> simp_all
theorem isBoolT_eq {P : Program} {t : TypeId} (h : isBoolT P t = true) : P.underlying t = some .bool := by
  unfold isBoolT at h; split at h <;> simp_all

/-- The builtin's name, its operands and their types. -/
def bi (cl : Call) : Option (Builtin × List Operand × List TypeId) := match cl.callee with
  | .builtin b => some (b, cl.args.toList, cl.argTypes.toList)
  | _ => none
theorem bi_eq {cl : Call} {b : Builtin} {l : List Operand} {m : List TypeId} (h : bi cl = some (b, l, m)) : cl.callee = .builtin b ∧ cl.args = l.toArray ∧ cl.argTypes = m.toArray := by
  unfold bi at h
  split at h
  · rename_i b' hb
    simp only [Option.some.injEq, Prod.mk.injEq] at h
    obtain ⟨rfl, rfl, rfl⟩ := h
    exact ⟨hb, by simp, by simp⟩
  · cases h

def arrT (P : Program) (t : TypeId) : Option (Nat × TypeId) := match P.underlying t with
  | some (.array n e) => some (n, e)
  | _ => none
theorem arrT_eq {P : Program} {t e : TypeId} {n : Nat} (h : arrT P t = some (n, e)) : P.underlying t = some (.array n e) := by
  unfold arrT at h; split at h
  · simp at h; simp_all
  · cases h
def ptrT (P : Program) (t : TypeId) : Option TypeId := match P.underlying t with
  | some (.pointer e) => some e
  | _ => none
theorem ptrT_eq {P : Program} {t e : TypeId} (h : ptrT P t = some e) : P.underlying t = some (.pointer e) := by
  unfold ptrT at h; split at h
  · simp at h; simp_all
  · cases h
def fldT (P : Program) (t : TypeId) (i : Nat) : Option Field := match P.underlying t with
  | some (.struct fs) => fs[i]?
  | _ => none
theorem fldT_eq {P : Program} {t : TypeId} {i : Nat} {fl : Field} (h : fldT P t i = some fl) : ∃ fs, P.underlying t = some (.struct fs) ∧ fs[i]? = some fl := by
  unfold fldT at h; split at h
  · rename_i fs hu; exact ⟨fs, hu, h⟩
  · cases h

def zIs (P : Program) (t : TypeId) (z : V) : Bool := match zrT P t with
  | some v => eqV z v
  | none => false

def chk (P : Program) (o : Op) (co : COp) : Bool := match co with
  | .mv x => match o with
    | .move y => chkX y x
    | .assign y => chkX y x
    | _ => false
  | .pick x1 x2 x3 => match o with
    | .pick y1 y2 y3 => chkX y1 x1 && chkX y2 x2 && chkX y3 x3
    | _ => false
  | .alloc t z => match o with
    | .alloc t' => t' == t && zeroIs P t z
    | _ => false
  | .box t x => match o with
    | .box t' y => t' == t && chkX y x
    | _ => false
  | .rcv => match o with
    | .call cl => (match bi cl with
      | some (.recover, [], _) => true
      | _ => false)
    | _ => false
  | .dfr x => match o with
    | .defer cl => (match cl.callee with
      | .value y => chkX y x && cl.args.toList.isEmpty
      | _ => false)
    | _ => false
  | .appS e' x x' => match o with
    | .call cl => (match bi cl with
      | some (.append, [y, y'], [t, u]) => chkX y x && chkX y' x' && isStrT P u && (match elT P t with
        | some e => e == e' && szT P e == some 1 && byT P e == some 1 && zeroIs P e [.int .u8 0]
        | none => false)
      | _ => false)
    | _ => false
  | .copy sz x x' => match o with
    | .call cl => (match bi cl with
      | some (.copy, [y, y'], t :: _) => chkX y x && chkX y' x' && (match elT P t with
        | some e => szT P e == some sz
        | none => false)
      | _ => false)
    | _ => false
  | .clr sz z x => match o with
    | .call cl => (match bi cl with
      | some (.clear, [y], [t]) => chkX y x && (match elT P t with
        | some e => szT P e == some sz && zeroIs P e z
        | none => false)
      | _ => false)
    | _ => false
  | .upt x => match o with
    | .convert s t y => chkX y x && unsT P s t
    | _ => false
  | .ufp ts x => match o with
    | .convert s t y => chkX y x && ufpT P ts s t
    | _ => false
  | .usd x => match o with
    | .call cl => (match bi cl with
      | some (.unsafeSliceData, [y], _) => chkX y x
      | _ => false)
    | _ => false
  | .ustr e x x' => match o with
    | .call cl => (match bi cl with
      | some (.unsafeString, [y, y'], [pt, _]) => chkX y x && chkX y' x' && ptrT P pt == some e && P.cellsOf e == 1
      | _ => false)
    | _ => false
  | .noe x => match o with
    | .call cl => (match cl.callee, cl.args.toList with
      | .value (.func k), [y] => chkX y x && noeT P k
      | _, _ => false)
    | _ => false
  | .build z ps => match o with
    | .build t qs => zeroIs P t z && (match placeT P t with
      | some pl => chkParts pl qs.toList ps
      | none => false)
    | _ => false
  | .bslice sz len z ps => match o with
    | .buildSlice t len' qs => len' == len && (match elT P t with
      | some e => szT P e == some sz && zeroIs P e z && z.length == sz && decide (0 < sz) && decide (len * sz ≤ 16777216) && chkParts (fun i => some (i * sz, sz)) qs.toList (ps.map fun (p : Nat × X) => (p.1 * sz, sz, p.2))
      | none => false)
    | _ => false
  | .load n agg x => match o with
    | .load t y => chkX y x && aggT P t == some agg && szT P t == some n && (agg || n == 1)
    | _ => false
  | .store n x x' => match o with
    | .store t y y' => chkX y x && chkX y' x' && szT P t == some n
    | _ => false
  | .nilck x => match o with
    | .nilCheck y => chkX y x
    | _ => false
  | .bin op x x' => match o with
    | .binOp op' _ y y' _ => op == op' && chkX y x && chkX y' x'
    | _ => false
  | .eqb neg x x' => match o with
    | .binOp op t y y' _ => binIs op neg && chkX y x && chkX y' x' && isBoolT P t
    | _ => false
  | .eqn neg k x x' => match o with
    | .binOp op t y y' _ => binIs op neg && chkX y x && chkX y' x' && nilT P t k y y'
    | _ => false
  | .eqa neg ks x x' => match o with
    | .binOp op t y y' _ => binIs op neg && chkX y x && chkX y' x' && leafT P 100 t == some ks && szT P t == some ks.length && aggT P t == some true && !(P.eqGuardType P.depth t)
    | _ => false
  | .un op x => match o with
    | .unOp op' _ y => op == op' && chkX y x
    | _ => false
  | .toInt k x => match o with
    | .convert s t y => chkX y x && (P.underlying s).isSome && isIntT P t k
    | _ => false
  | .toStr x => match o with
    | .convert s t y => chkX y x && (P.underlying s).isSome && isStrT P t
    | _ => false
  | .b2s x => match o with
    | .convert s t y => chkX y x && isStrT P t && (match elT P s with
      | some e => isIntT P e .u8
      | none => false)
    | _ => false
  | .mkI t x => match o with
    | .makeInterface t' y => t' == t && chkX y x && P.concrete t
    | _ => false
  | .mkF k l m => match o with
    | .makeFunc (.func k') l' m' => k' == k && chkXs l'.toList l && chkXs m'.toList m
    | _ => false
  | .mkM => match o with
    | .makeMap _ none => true
    | _ => false
  | .mkS sz bytes z x x' => match o with
    | .makeSlice t y y' => chkX y x && chkX y' x' && (match elT P t with
      | some e => szT P e == some sz && byT P e == some bytes && zeroIs P e z && z.length == sz && decide (0 < sz)
      | none => false)
    | _ => false
  | .sls x lo hi => match o with
    | .slice t y lo' hi' none => chkX y x && chkO lo' lo && chkO hi' hi && isStrT P t
    | _ => false
  | .slv sz x lo hi mx => match o with
    | .slice t y lo' hi' mx' => chkX y x && chkO lo' lo && chkO hi' hi && chkO mx' mx && (!mx.isSome || hi.isSome) && (match elT P t with
      | some e => szT P e == some sz
      | none => false)
    | _ => false
  | .fadr off x => match o with
    | .fieldAddr s y i => chkX y x && (match fldT P s i with
      | some fl => fl.offset == off && (match szT P fl.type with
        | some n => n != 0
        | none => false)
      | none => false)
    | _ => false
  | .fld off n agg x => match o with
    | .field s y i => chkX y x && (match fldT P s i with
      | some fl => fl.offset == off && szT P fl.type == some n && aggT P fl.type == some agg && (agg || n == 1)
      | none => false)
    | _ => false
  | .iadr sz x x' => match o with
    | .indexAddr t y y' => chkX y x && chkX y' x' && (match elT P t with
      | some e => szT P e == some sz
      | none => false)
    | _ => false
  | .iadrA len sz x x' => match o with
    | .indexAddr t y y' => chkX y x && chkX y' x' && (match arrT P t with
      | some (n, e) => n == len && szT P e == some sz
      | none => false)
    | _ => false
  | .idxS x x' => match o with
    | .index t y y' => chkX y x && chkX y' x' && isStrT P t
    | _ => false
  | .idxA len sz agg x x' => match o with
    | .index t y y' => chkX y x && chkX y' x' && (match arrT P t with
      | some (n, e) => n == len && szT P e == some sz && aggT P e == some agg && (agg || sz == 1)
      | none => false)
    | _ => false
  | .look kk z ok x x' => match o with
    | .lookup t y y' ok' => ok == ok' && chkX y x && chkX y' x' && (match mapT P t with
      | some (k, e) => keyT P kk k && zIs P e z
      | none => false)
    | _ => false
  | .mset kk x x' x'' => match o with
    | .mapUpdate t y y' y'' => chkX y x && chkX y' x' && chkX y'' x'' && (match mapT P t with
      | some (k, _) => keyT P kk k
      | none => false)
    | .insert t y y' y'' => chkX y x && chkX y' x' && chkX y'' x'' && (match mapT P t with
      | some (k, _) => keyT P kk k
      | none => false)
    | _ => false
  | .tas t z ok x => match o with
    | .typeAssert y _ t' ok' => t' == t && ok == ok' && chkX y x && P.concrete t && (!ok || zIs P t z)
    | _ => false
  | .ext x i => match o with
    | .extract y i' => i' == i && chkX y x
    | _ => false
  | .call k xs => match o with
    | .call cl => (match cl.callee with
      | .value (.func k') => k' == k && chkXs cl.args.toList xs
      | _ => false)
    | _ => false
  | .callV x xs => match o with
    | .call cl => (match cl.callee with
      | .value y => chkX y x && chkXs cl.args.toList xs
      | _ => false)
    | _ => false
  | .lenS x => match o with
    | .call cl => (match bi cl with
      | some (.len, [y], [t]) => chkX y x && isStrT P t
      | _ => false)
    | _ => false
  | .lenV x => match o with
    | .call cl => (match bi cl with
      | some (.len, [y], [t]) => chkX y x && (elT P t).isSome
      | _ => false)
    | _ => false
  | .lenM x => match o with
    | .call cl => (match bi cl with
      | some (.len, [y], [t]) => chkX y x && (mapT P t).isSome
      | _ => false)
    | _ => false
  | .lenA n => match o with
    | .call cl => (match bi cl with
      | some (.len, [_], [t]) => (match arrT P t, ptrT P t with
        | some (m, _), _ => m == n
        | none, some u => (match arrT P u with
          | some (m, _) => m == n
          | none => false)
        | none, none => false)
      | _ => false)
    | _ => false
  | .app e' sz bytes z x x' => match o with
    | .call cl => (match bi cl with
      | some (.append, [y, y'], [t, t']) => t == t' && chkX y x && chkX y' x' && (match elT P t with
        | some e => e == e' && szT P e == some sz && byT P e == some bytes && zeroIs P e z && z.length == sz && decide (0 < sz)
        | none => false)
      | _ => false)
    | _ => false
  | .mx x x' => match o with
    | .call cl => (match bi cl with
      | some (.max, [y, y'], _) => chkX y x && chkX y' x'
      | _ => false)
    | _ => false
  | .mn x x' => match o with
    | .call cl => (match bi cl with
      | some (.min, [y, y'], _) => chkX y x && chkX y' x'
      | _ => false)
    | _ => false
  | .pan x => match o with
    | .panic y => chkX y x
    | .call cl => (match bi cl with
      | some (.panic, [y], _) => chkX y x
      | _ => false)
    | _ => false
  | _ => false

section
variable {P : Program} {c : Base} {g : G} {h : H} {w : World} {nt : NT} {f : F} {a : Act}

theorem step_good (R : Rel c g h w) (Fr : FRel g h.next nt f a) (o : Oper) (co : COp) (hc : chk P o.op co = true) : Good P c g h w (execOp a.eval o) (step f h co) := by
  generalize ho : o.op = op at hc
  cases co with
  | mv x =>
    simp only [chk] at hc
    split at hc
    · exact good_mv R Fr o x _ (.inl ho) hc
    · exact good_mv R Fr o x _ (.inr ho) hc
    · cases hc
  | pick x1 x2 x3 =>
    simp only [chk] at hc
    split at hc
    · simp only [Bool.and_eq_true] at hc
      exact good_pick R Fr o _ _ _ _ _ _ ho hc.1.1 hc.1.2 hc.2
    · cases hc
  | alloc t z =>
    simp only [chk] at hc
    split at hc
    · simp only [Bool.and_eq_true, beq_iff_eq] at hc
      obtain ⟨rfl, hc⟩ := hc
      exact good_alloc R o z _ ho hc
    · cases hc
  | box t x =>
    simp only [chk] at hc
    split at hc
    · simp only [Bool.and_eq_true, beq_iff_eq] at hc
      obtain ⟨rfl, hc⟩ := hc
      exact good_box R Fr o x _ _ ho hc
    · cases hc
  | rcv => trivial
  | dfr x => trivial
  | appS e x x' =>
    simp only [chk] at hc
    split at hc
    · split at hc
      · rename_i hb
        obtain ⟨q1, q2, q3⟩ := bi_eq hb
        simp only [Bool.and_eq_true] at hc
        obtain ⟨⟨⟨h1, h2⟩, h3⟩, h4⟩ := hc
        split at h4
        · simp only [Bool.and_eq_true, beq_iff_eq] at h4
          obtain ⟨⟨⟨rfl, g1⟩, g2⟩, g3⟩ := h4
          exact good_appS R Fr o x x' _ _ _ _ _ _ ho q1 q2 q3 h1 h2 ‹_› (isStrT_eq h3) g1 g2 g3
        · cases h4
      · cases hc
    · cases hc
  | copy sz x x' =>
    simp only [chk] at hc
    split at hc
    · split at hc
      · rename_i hb
        obtain ⟨q1, q2, q3⟩ := bi_eq hb
        simp only [Bool.and_eq_true] at hc
        obtain ⟨⟨h1, h2⟩, h4⟩ := hc
        split at h4
        · simp only [beq_iff_eq] at h4
          exact good_copy R Fr o sz x x' _ _ _ _ _ _ ho q1 q2 q3 h1 h2 ‹_› h4
        · cases h4
      · cases hc
    · cases hc
  | clr sz z x =>
    simp only [chk] at hc
    split at hc
    · split at hc
      · rename_i hb
        obtain ⟨q1, q2, q3⟩ := bi_eq hb
        simp only [Bool.and_eq_true] at hc
        obtain ⟨h1, h4⟩ := hc
        split at h4
        · simp only [Bool.and_eq_true, beq_iff_eq] at h4
          exact good_clr R Fr o sz z x _ _ _ _ ho q1 q2 q3 h1 ‹_› h4.1 h4.2
        · cases h4
      · cases hc
    · cases hc
  | upt x =>
    simp only [chk] at hc
    split at hc
    · simp only [Bool.and_eq_true] at hc
      exact good_upt R Fr o x _ _ _ ho hc.1 hc.2
    · cases hc
  | ufp ts x =>
    simp only [chk] at hc
    split at hc
    · simp only [Bool.and_eq_true] at hc
      exact good_ufp R Fr o ts x _ _ _ ho hc.1 hc.2
    · cases hc
  | usd x =>
    simp only [chk] at hc
    split at hc
    · split at hc
      · rename_i hb
        obtain ⟨q1, q2, q3⟩ := bi_eq hb
        exact good_usd R Fr o x _ _ _ ho q1 q2 q3 hc
      · cases hc
    · cases hc
  | ustr e x x' =>
    simp only [chk] at hc
    split at hc
    · split at hc
      · rename_i hb
        obtain ⟨q1, q2, q3⟩ := bi_eq hb
        simp only [Bool.and_eq_true, beq_iff_eq] at hc
        obtain ⟨⟨⟨h1, h2⟩, h3⟩, h4⟩ := hc
        exact good_ustr R Fr o e x x' _ _ _ _ _ ho q1 q2 q3 h1 h2 (ptrT_eq h3) h4
      · cases hc
    · cases hc
  | noe x =>
    simp only [chk] at hc
    split at hc
    · split at hc
      · rename_i k y hce hca
        simp only [Bool.and_eq_true] at hc
        exact good_noe R Fr o x _ y k ho hce (by rw [← hca]) hc.1 hc.2
      · cases hc
    · cases hc
  | build z ps =>
    simp only [chk] at hc
    split at hc
    · simp only [Bool.and_eq_true] at hc
      obtain ⟨h1, h2⟩ := hc
      split at h2
      · exact good_build R Fr o z ps _ _ ho h1 _ ‹_› h2
      · cases h2
    · cases hc
  | bslice sz len z ps =>
    simp only [chk] at hc
    split at hc
    · simp only [Bool.and_eq_true, beq_iff_eq] at hc
      obtain ⟨rfl, h2⟩ := hc
      split at h2
      · simp only [Bool.and_eq_true, beq_iff_eq, decide_eq_true_eq] at h2
        obtain ⟨⟨⟨⟨⟨h1, h2⟩, h3⟩, h4⟩, h5⟩, h6⟩ := h2
        exact good_bslice R Fr o sz _ z ps _ _ _ ho ‹_› h1 h2 h3 h4 (by omega) h6
      · cases h2
    · cases hc
  | load n agg x =>
    simp only [chk] at hc
    split at hc
    · simp only [Bool.and_eq_true, beq_iff_eq] at hc
      obtain ⟨⟨⟨h1, h2⟩, h3⟩, h4⟩ := hc
      exact good_load R Fr o n agg x _ _ ho h1 h2 (fun _ => h3) (fun e => by simpa [e] using h4)
    · cases hc
  | store n x x' =>
    simp only [chk] at hc
    split at hc
    · simp only [Bool.and_eq_true, beq_iff_eq] at hc
      exact good_store R Fr o n x x' _ _ _ ho hc.1.1 hc.1.2 hc.2
    · cases hc
  | nilck x =>
    simp only [chk] at hc
    split at hc
    · exact good_nilck R Fr o x _ ho hc
    · cases hc
  | bin bop x x' =>
    simp only [chk] at hc
    split at hc
    · simp only [Bool.and_eq_true] at hc
      obtain ⟨⟨h1, h2⟩, h3⟩ := hc
      obtain rfl := binBeq _ _ h1
      exact good_bin R Fr o _ x x' _ _ _ _ ho h2 h3
    · cases hc
  | eqb neg x x' =>
    simp only [chk] at hc
    split at hc
    · simp only [Bool.and_eq_true] at hc
      obtain ⟨⟨⟨h1, h2⟩, h3⟩, h4⟩ := hc
      rw [binIs_eq h1] at ho
      exact good_eqb R Fr o neg x x' _ _ _ _ ho h2 h3 (isBoolT_eq h4)
    · cases hc
  | eqn neg k x x' =>
    simp only [chk] at hc
    split at hc
    · simp only [Bool.and_eq_true] at hc
      obtain ⟨⟨⟨h1, h2⟩, h3⟩, h4⟩ := hc
      rw [binIs_eq h1] at ho
      exact good_eqn R Fr o neg k x x' _ _ _ _ ho h2 h3 h4
    · cases hc
  | eqa neg ks x x' =>
    simp only [chk] at hc
    split at hc
    · simp only [Bool.and_eq_true, beq_iff_eq, Bool.not_eq_true'] at hc
      obtain ⟨⟨⟨⟨⟨⟨h1, h2⟩, h3⟩, h4⟩, h5⟩, h6⟩, h7⟩ := hc
      rw [binIs_eq h1] at ho
      exact good_eqa R Fr o neg ks x x' _ _ _ _ ho h2 h3 h4 h5 h6 h7
    · cases hc
  | un uop x =>
    simp only [chk] at hc
    split at hc
    · simp only [Bool.and_eq_true] at hc
      obtain ⟨h1, h2⟩ := hc
      obtain rfl := unBeq _ _ h1
      exact good_un R Fr o _ x _ _ ho h2
    · cases hc
  | toInt k x =>
    simp only [chk] at hc
    split at hc
    · simp only [Bool.and_eq_true] at hc
      exact good_toInt R Fr o k x _ _ _ ho hc.1.1 hc.1.2 (isIntT_eq hc.2)
    · cases hc
  | toStr x =>
    simp only [chk] at hc
    split at hc
    · simp only [Bool.and_eq_true] at hc
      exact good_toStr R Fr o x _ _ _ ho hc.1.1 hc.1.2 (isStrT_eq hc.2)
    · cases hc
  | b2s x =>
    simp only [chk] at hc
    split at hc
    · simp only [Bool.and_eq_true] at hc
      obtain ⟨⟨h1, h2⟩, h3⟩ := hc
      split at h3
      · exact good_b2s R Fr o x _ _ _ _ ho h1 ‹_› (isIntT_eq h3) (isStrT_eq h2)
      · cases h3
    · cases hc
  | mkI t x =>
    simp only [chk] at hc
    split at hc
    · simp only [Bool.and_eq_true, beq_iff_eq] at hc
      obtain ⟨⟨rfl, h2⟩, h3⟩ := hc
      exact good_mkI R Fr o _ x _ ho h2 h3
    · cases hc
  | mkF k l m =>
    simp only [chk] at hc
    split at hc
    · simp only [Bool.and_eq_true, beq_iff_eq] at hc
      obtain ⟨⟨rfl, h2⟩, h3⟩ := hc
      exact good_mkF R Fr o _ l m _ _ ho h2 h3
    · cases hc
  | mkM =>
    simp only [chk] at hc
    split at hc
    · exact good_mkM R o _ ho
    · cases hc
  | mkS sz bytes z x x' =>
    simp only [chk] at hc
    split at hc
    · simp only [Bool.and_eq_true] at hc
      obtain ⟨⟨h1, h2⟩, h3⟩ := hc
      split at h3
      · simp only [Bool.and_eq_true, beq_iff_eq, decide_eq_true_eq] at h3
        obtain ⟨⟨⟨⟨g1, g2⟩, g3⟩, g4⟩, g5⟩ := h3
        exact good_mkS R Fr o sz bytes z x x' _ _ _ _ ho h1 h2 ‹_› g1 g2 g3 g4 g5
      · cases h3
    · cases hc
  | sls x lo hi =>
    simp only [chk] at hc
    split at hc
    · simp only [Bool.and_eq_true] at hc
      exact good_sls R Fr o x lo hi _ _ _ _ ho hc.1.1.1 hc.1.1.2 hc.1.2 (isStrT_eq hc.2)
    · cases hc
  | slv sz x lo hi mx =>
    simp only [chk] at hc
    split at hc
    · simp only [Bool.and_eq_true] at hc
      obtain ⟨⟨⟨⟨⟨h1, h2⟩, h3⟩, h4⟩, h5⟩, h6⟩ := hc
      split at h6
      · simp only [beq_iff_eq] at h6
        exact good_slv R Fr o sz x lo hi mx _ _ _ _ _ _ ho h1 h2 h3 h4 ‹_› h6 (fun e => by simpa [e] using h5)
      · cases h6
    · cases hc
  | fadr off x =>
    simp only [chk] at hc
    split at hc
    · simp only [Bool.and_eq_true] at hc
      obtain ⟨h1, h2⟩ := hc
      split at h2
      · rename_i fl hfl
        simp only [Bool.and_eq_true, beq_iff_eq] at h2
        obtain ⟨h3, h4⟩ := h2
        split at h4
        · obtain ⟨fs, q1, q2⟩ := fldT_eq hfl
          exact good_fadr R Fr o off x _ _ _ ho h1 fs fl q1 q2 h3 _ ‹_› (by simpa using h4)
        · cases h4
      · cases h2
    · cases hc
  | fld off n agg x =>
    simp only [chk] at hc
    split at hc
    · simp only [Bool.and_eq_true] at hc
      obtain ⟨h1, h2⟩ := hc
      split at h2
      · rename_i fl hfl
        simp only [Bool.and_eq_true, beq_iff_eq] at h2
        obtain ⟨⟨⟨h3, h4⟩, h5⟩, h6⟩ := h2
        obtain ⟨fs, q1, q2⟩ := fldT_eq hfl
        exact good_fld R Fr o off n agg x _ _ _ ho h1 fs fl q1 q2 h3 h5 (fun _ => h4) (fun e => by simpa [e] using h6)
      · cases h2
    · cases hc
  | iadr sz x x' =>
    simp only [chk] at hc
    split at hc
    · simp only [Bool.and_eq_true] at hc
      obtain ⟨⟨h1, h2⟩, h3⟩ := hc
      split at h3
      · exact good_iadr R Fr o sz x x' _ _ _ _ ho h1 h2 ‹_› (by simpa using h3)
      · cases h3
    · cases hc
  | iadrA len sz x x' =>
    simp only [chk] at hc
    split at hc
    · simp only [Bool.and_eq_true] at hc
      obtain ⟨⟨h1, h2⟩, h3⟩ := hc
      split at h3
      · rename_i n e he
        simp only [Bool.and_eq_true, beq_iff_eq] at h3
        obtain ⟨rfl, h3⟩ := h3
        exact good_iadrA R Fr o _ sz x x' _ _ _ _ ho h1 h2 (arrT_eq he) h3
      · cases h3
    · cases hc
  | idxS x x' =>
    simp only [chk] at hc
    split at hc
    · simp only [Bool.and_eq_true] at hc
      exact good_idxS R Fr o x x' _ _ _ ho hc.1.1 hc.1.2 (isStrT_eq hc.2)
    · cases hc
  | idxA len sz agg x x' =>
    simp only [chk] at hc
    split at hc
    · simp only [Bool.and_eq_true] at hc
      obtain ⟨⟨h1, h2⟩, h3⟩ := hc
      split at h3
      · rename_i n e he
        simp only [Bool.and_eq_true, beq_iff_eq] at h3
        obtain ⟨⟨⟨rfl, h3⟩, h4⟩, h5⟩ := h3
        exact good_idxA R Fr o _ sz agg x x' _ _ _ _ ho h1 h2 (arrT_eq he) h3 h4 (fun e => by simpa [e] using h5)
      · cases h3
    · cases hc
  | look kk z ok x x' =>
    simp only [chk] at hc
    split at hc
    · simp only [Bool.and_eq_true, beq_iff_eq] at hc
      obtain ⟨⟨⟨rfl, h1⟩, h2⟩, h3⟩ := hc
      split at h3
      · simp only [Bool.and_eq_true] at h3
        obtain ⟨h4, h5⟩ := h3
        unfold zIs at h5
        split at h5
        · exact good_look R Fr o kk z _ x x' _ _ _ _ _ ho h1 h2 ‹_› h4 _ ‹_› h5
        · cases h5
      · cases h3
    · cases hc
  | mset kk x x' x'' =>
    simp only [chk] at hc
    split at hc
    · simp only [Bool.and_eq_true] at hc
      obtain ⟨⟨⟨h1, h2⟩, h3⟩, h4⟩ := hc
      split at h4
      · exact good_mset R Fr o kk x x' x'' _ _ _ _ _ _ (.inl ho) h1 h2 h3 ‹_› h4
      · cases h4
    · simp only [Bool.and_eq_true] at hc
      obtain ⟨⟨⟨h1, h2⟩, h3⟩, h4⟩ := hc
      split at h4
      · exact good_mset R Fr o kk x x' x'' _ _ _ _ _ _ (.inr ho) h1 h2 h3 ‹_› h4
      · cases h4
    · cases hc
  | tas t z ok x =>
    simp only [chk] at hc
    split at hc
    · simp only [Bool.and_eq_true, beq_iff_eq] at hc
      obtain ⟨⟨⟨⟨rfl, rfl⟩, h1⟩, h2⟩, h3⟩ := hc
      refine good_tas R Fr o _ z _ x _ _ ho h1 h2 (fun e => ?_)
      rw [e] at h3
      simp [zIs] at h3
      split at h3
      · exact ⟨_, ‹_›, h3⟩
      · cases h3
    · cases hc
  | ext x i =>
    simp only [chk] at hc
    split at hc
    · simp only [Bool.and_eq_true, beq_iff_eq] at hc
      obtain ⟨rfl, h1⟩ := hc
      exact good_ext R Fr o x _ _ ho h1
    · cases hc
  | call k xs =>
    simp only [chk] at hc
    split at hc
    · split at hc
      · simp only [Bool.and_eq_true, beq_iff_eq] at hc
        obtain ⟨rfl, h1⟩ := hc
        exact good_call R Fr o _ xs _ ho ‹_› h1
      · cases hc
    · cases hc
  | callV x xs =>
    simp only [chk] at hc
    split at hc
    · split at hc
      · simp only [Bool.and_eq_true] at hc
        exact good_callV R Fr o x xs _ _ ho ‹_› hc.1 hc.2
      · cases hc
    · cases hc
  | lenS x =>
    simp only [chk] at hc
    split at hc
    · split at hc
      · rename_i hb
        obtain ⟨q1, q2, q3⟩ := bi_eq hb
        simp only [Bool.and_eq_true] at hc
        exact good_lenS R Fr o x _ _ _ ho q1 q2 q3 hc.1 (isStrT_eq hc.2)
      · cases hc
    · cases hc
  | lenV x =>
    simp only [chk] at hc
    split at hc
    · split at hc
      · rename_i hb
        obtain ⟨q1, q2, q3⟩ := bi_eq hb
        simp only [Bool.and_eq_true] at hc
        obtain ⟨e, he⟩ := Option.isSome_iff_exists.1 hc.2
        exact good_lenV R Fr o x _ _ _ _ ho q1 q2 q3 hc.1 he
      · cases hc
    · cases hc
  | lenM x =>
    simp only [chk] at hc
    split at hc
    · split at hc
      · rename_i hb
        obtain ⟨q1, q2, q3⟩ := bi_eq hb
        simp only [Bool.and_eq_true] at hc
        obtain ⟨⟨k, e⟩, he⟩ := Option.isSome_iff_exists.1 hc.2
        exact good_lenM R Fr o x _ _ _ _ _ ho q1 q2 q3 hc.1 he
      · cases hc
    · cases hc
  | lenA n =>
    simp only [chk] at hc
    split at hc
    · split at hc
      · rename_i hb
        obtain ⟨q1, q2, q3⟩ := bi_eq hb
        split at hc
        · rename_i ha
          simp only [beq_iff_eq] at hc; subst hc
          exact good_lenA R o _ _ _ _ _ ho q1 q2 q3 (.inl (arrT_eq ha))
        · rename_i hp
          split at hc
          · rename_i ha
            simp only [beq_iff_eq] at hc; subst hc
            exact good_lenA R o _ _ _ _ _ ho q1 q2 q3 (.inr ⟨_, ptrT_eq hp, arrT_eq ha⟩)
          · cases hc
        · cases hc
      · cases hc
    · cases hc
  | app e sz bytes z x x' =>
    simp only [chk] at hc
    split at hc
    · split at hc
      · rename_i hb
        obtain ⟨q1, q2, q3⟩ := bi_eq hb
        simp only [Bool.and_eq_true, beq_iff_eq] at hc
        obtain ⟨⟨⟨rfl, h1⟩, h2⟩, h3⟩ := hc
        split at h3
        · simp only [Bool.and_eq_true, beq_iff_eq, decide_eq_true_eq] at h3
          obtain ⟨⟨⟨⟨⟨rfl, g1⟩, g2⟩, g3⟩, g4⟩, g5⟩ := h3
          exact good_app R Fr o sz bytes z x x' _ _ _ _ _ ho q1 q2 q3 h1 h2 ‹_› g1 g2 g3 g4 g5
        · cases h3
      · cases hc
    · cases hc
  | mx x x' =>
    simp only [chk] at hc
    split at hc
    · split at hc
      · rename_i hb
        obtain ⟨q1, q2, q3⟩ := bi_eq hb
        simp only [Bool.and_eq_true] at hc
        exact good_mx R Fr o x x' _ _ _ ho q1 q2 hc.1 hc.2
      · cases hc
    · cases hc
  | mn x x' =>
    simp only [chk] at hc
    split at hc
    · split at hc
      · rename_i hb
        obtain ⟨q1, q2, q3⟩ := bi_eq hb
        simp only [Bool.and_eq_true] at hc
        exact good_mn R Fr o x x' _ _ _ ho q1 q2 hc.1 hc.2
      · cases hc
    · cases hc
  | pan x =>
    simp only [chk] at hc
    split at hc
    · exact good_pan R Fr o x _ hc (.inl ho)
    · split at hc
      · rename_i hb
        obtain ⟨q1, q2, q3⟩ := bi_eq hb
        exact good_pan R Fr o x _ hc (.inr ⟨_, ho, q1, q2⟩)
      · cases hc
    · cases hc
  | _ => simp [chk] at hc
end
end Go.Ab
