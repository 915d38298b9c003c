import Derived.Test.YtflfkbnklncilaaGreatDoorA4
import Derived.Test.YtflfkbnklncilaaGreatDoorLay
import Derived.Test.YtflfkbnklncilaaGreatDoorR0
import Derived.Below
/-! What the library's functions do, over abstract states. -/
set_option linter.unusedVariables false
set_option linter.unusedSimpArgs false
namespace Go.Ab
open Go.RowKit Go.Proofs Go.Sort

/-- What is known of the memory in which all began: three variables of the library's. -/
instance : LibC Tryz.prog := { lib := fun w => (∃ m, w.cell? ⟨1, 0, none⟩ = some (.int .i64 m)) ∧ Lib.TabIs Tryz.prog w "internal/strconv.uint64pow10" .u64 Lib.pow10Tab ∧ TabAt 0 Lib.deBruijn64tab w }

theorem lib_of {P : Program} [LibC P] {c : Base} (hL : LibB P c) {g : G} {h : H} {w : World} (R : Rel c g h w) : LibC.lib P w := hL w R.bel.block

theorem Rel.below {c : Base} {g : G} {h : H} {w w' : World} (R : Rel c g h w) (hb : Below w.heap.size w w') : Rel c g h w' := by
  have hblk : ∀ b o, h.get b = some o → w'.heap[g.ι b]? = w.heap[g.ι b]? := fun b o hb2 => hb.block _ (R.lt hb2)
  refine ⟨R.dom, fun b o ho => ?_, R.inj, R.own, ⟨hb.os.trans R.bel.os, hb.tape.trans R.bel.tape, hb.output.trans R.bel.output, Nat.le_trans R.bel.size hb.size, fun i hi => ?_⟩, fun b t m ht => ⟨(R.typ b t m ht).1, fun o ho => ?_⟩, R.hid⟩
  · obtain ⟨X, h1, h2⟩ := R.obj b o ho
    exact ⟨X, (hblk b o ho).trans h1, h2⟩
  · have := c.lt i hi
    have := R.bel.size
    exact (hb.block i (by omega)).trans (R.bel.block i hi)
  · obtain ⟨C, fr, h1, h2⟩ := (R.typ b t m ht).2 o ho
    exact ⟨C, fr, (hblk b o ho).trans h1, h2⟩

theorem below_grow (w : World) (k : Nat) (os : Array Obj) : Below w.heap.size w (grow (w.drewN k) os) := by
  refine ⟨rfl, rfl, rfl, by simp [grow, World.drewN], fun i hi => ?_⟩
  simp only [grow, World.drewN]
  rw [Array.getElem?_append_left hi]

theorem VsRel.two {g : G} {N : Nat} {a b : V} {xs : Array Value} (h : VsRel g N [a, b] xs.toList) : ∃ x y, xs = #[x, y] ∧ VRel g N a x ∧ VRel g N b y := by
  simp only [VsRel] at h
  obtain ⟨x, r, h1, h2, y, r', h3, h4, h5⟩ := h
  subst h5; subst h3
  exact ⟨x, y, by cases xs; simpa using h1, h2, h4⟩
theorem VsRel.one' {g : G} {N : Nat} {a : V} {xs : Array Value} (h : VsRel g N [a] xs.toList) : ∃ x, xs = #[x] ∧ VRel g N a x := by
  simp only [VsRel] at h
  obtain ⟨x, r, h1, h2, h3⟩ := h
  subst h3
  exact ⟨x, by cases xs; simpa using h1, h2⟩

theorem idxB_eq (c : UInt8) : ∀ (l : List UInt8) (i : Nat), idxB c l i = if Lib.indexByte l c = -1 then -1 else Lib.indexByte l c + i
  | [], i => by simp [idxB, Lib.indexByte]
  | b :: l, i => by
    have hge := Lib.indexByte_ge l c
    simp only [idxB, Lib.indexByte]
    by_cases hb : (b == c) = true
    · simp [hb]
    · have hb' : (b == c) = false := by simpa using hb
      simp only [hb', cond_false, idxB_eq c l (i + 1), Bool.false_eq_true, if_false, beq_iff_eq]
      by_cases h : Lib.indexByte l c = -1
      · simp [h]
      · have : ¬ Lib.indexByte l c + 1 = -1 := by omega
        simp only [h, if_false, this]
        push_cast
        omega

theorem tr_IndexByte : FnOK Tryz.prog 84 (.prim pIndexByte) := by
  intro vs h v d hp
  unfold pIndexByte at hp
  split at hp
  · rename_i s c
    simp only [Option.some.injEq, Prod.mk.injEq] at hp
    obtain ⟨rfl, rfl⟩ := hp
    refine ⟨by kernel_rfl, fun cb hL g w xs R hx => ?_⟩
    obtain ⟨x, y, rfl, h1, h2⟩ := hx.two
    simp only [VRel] at h1 h2
    subst h1; subst h2
    refine (Tryz.strings_IndexByte0 _ c w).mono ?_
    rintro e w' ⟨rfl, rfl⟩
    refine ⟨_, _, g, ⟨rfl, rfl⟩, R, Agree.refl _ _, Nat.le_refl _, ?_⟩
    simp only [ERel, VRel]
    congr 1
    rw [idxB_eq]
    have e : (UInt8.ofNat c.toNat) = c.toNat.toUInt8 := rfl
    rw [e]
    split
    · rename_i h; exact h
    · simp
  · cases hp

theorem pre_eq : ∀ (x s : List UInt8), pre x s = x.isPrefixOf s
  | [], s => by simp [pre]
  | a :: x, [] => by simp [pre]
  | a :: x, b :: s => by
    simp only [pre, List.isPrefixOf]
    cases a == b
    · simp
    · simp [pre_eq x s]

theorem cont_eq (x : List UInt8) : ∀ s : List UInt8, cont x s = Lib.contains s x
  | [] => by
    simp only [cont, pre_eq, Lib.contains, Lib.index]
    cases x <;> simp
  | b :: s => by
    have ih := cont_eq x s
    have hge := Lib.index_ge s x
    simp only [Lib.contains] at ih
    simp only [cont, pre_eq, Lib.contains, Lib.index]
    by_cases hp : x.isPrefixOf (b :: s) = true
    · simp [hp]
    · have hp' : x.isPrefixOf (b :: s) = false := Bool.eq_false_iff.2 hp
      simp only [hp', cond_false, ih, Bool.false_eq_true, if_false, beq_iff_eq]
      by_cases h : Lib.index s x = -1
      · simp [h]
      · simp only [h, if_false]
        have h1 : 0 ≤ Lib.index s x := by omega
        have h2 : 0 ≤ Lib.index s x + 1 := by omega
        simp [h1, h2]

theorem tr_Contains : FnOK Tryz.prog 133 (.prim pContains) := by
  intro vs h v d hp
  unfold pContains at hp
  split at hp
  · rename_i s x
    split at hp
    · rename_i hlen
      simp only [Option.some.injEq, Prod.mk.injEq] at hp
      obtain ⟨rfl, rfl⟩ := hp
      refine ⟨by kernel_rfl, fun cb hL g w xs R hx => ?_⟩
      obtain ⟨a, b, rfl, h1, h2⟩ := hx.two
      simp only [VRel] at h1 h2
      subst h1; subst h2
      obtain ⟨⟨m, hm⟩, _⟩ := lib_of hL R
      refine (Tryz.strings_Contains0 ⟨s.toArray⟩ ⟨x.toArray⟩ m w (by simpa [ByteArray.size] using hlen) hm).mono ?_
      rintro e w' ⟨rfl, rfl⟩
      refine ⟨_, _, g, ⟨rfl, rfl⟩, R, Agree.refl _ _, Nat.le_refl _, ?_⟩
      simp only [ERel, VRel]
      rw [cont_eq]
    · cases hp
  · cases hp

theorem tz_eq : ∀ (d n : Nat), n ≠ 0 → n < 2 ^ d → d ≤ 64 → tz d n = 64 - d + Lib.ctzFrom d n
  | 0, n, h0, h1, _ => by simp at h1; omega
  | d + 1, n, h0, h1, hd => by
    simp only [tz, Lib.ctzFrom]
    by_cases e : n % 2 = 0
    · have e2 : ¬ n % 2 = 1 := by omega
      have hb : Nat.beq (n % 2) 0 = true := by rw [e]; rfl
      rw [hb]
      simp only [e2, if_false]
      rw [tz_eq d (n / 2) (by omega) (by rw [Nat.pow_succ] at h1; omega) (by omega)]
      omega
    · have e2 : n % 2 = 1 := by omega
      have hb : Nat.beq (n % 2) 0 = false := by rw [e2]; rfl
      rw [hb]
      simp only [e2, if_true]
      omega

theorem tr_TZ : FnOK Tryz.prog 144 (.prim pTZ) := by
  intro vs h v d hp
  unfold pTZ at hp
  split at hp
  · rename_i n
    split at hp
    · rename_i hn
      simp only [Option.some.injEq, Prod.mk.injEq] at hp
      obtain ⟨rfl, rfl⟩ := hp
      refine ⟨by kernel_rfl, fun cb hL g w xs R hx => ?_⟩
      obtain ⟨x, rfl, h1⟩ := hx.one'
      simp only [VRel] at h1
      subst h1
      obtain ⟨_, _, hT⟩ := lib_of hL R
      refine (Tryz.bits_TZ64 n w hn (fun _ => hT)).mono ?_
      rintro e w' ⟨rfl, rfl⟩
      refine ⟨_, _, g, ⟨rfl, rfl⟩, R, Agree.refl _ _, Nat.le_refl _, ?_⟩
      simp only [ERel, VRel]
      congr 2
      unfold Lib.ctz
      by_cases h0 : n = 0
      · subst h0; rfl
      · rw [if_neg h0, tz_eq 64 n h0 hn (Nat.le_refl _)]
        omega
    · cases hp
  · cases hp

theorem dig_eq : ∀ (d n : Nat) (acc : List UInt8), n < 10 ^ d → dig d n acc = Lib.decDigits n ++ acc
  | 0, n, acc, h => by
    have : n = 0 := by simpa using h
    subst this
    unfold Lib.decDigits
    simp [dig]
  | d + 1, n, acc, h => by
    unfold Lib.decDigits
    simp only [dig]
    by_cases e : n < 10
    · have : Nat.blt n 10 = true := by simpa using e
      rw [this]
      simp [e]
    · have : Nat.blt n 10 = false := Bool.eq_false_iff.2 (fun h => e (by simpa using h))
      rw [this]
      simp only [e, dite_false]
      rw [dig_eq d (n / 10) _ (by rw [Nat.pow_succ] at h; omega)]
      simp

theorem tr_Itoa : FnOK Tryz.prog n_strconv_Itoa (.prim pItoa) := by
  intro vs h v d hp
  unfold pItoa at hp
  split at hp
  · rename_i n
    split at hp
    · rename_i hn
      simp only [Option.some.injEq, Prod.mk.injEq] at hp
      obtain ⟨rfl, rfl⟩ := hp
      refine ⟨by kernel_rfl, fun cb hL g w xs R hx => ?_⟩
      obtain ⟨x, rfl, h1⟩ := hx.one'
      simp only [VRel] at h1
      subst h1
      obtain ⟨_, hT, _⟩ := lib_of hL R
      refine (Tryz.strconv_Itoa0 (Int.ofNat n) (by simp only [Int.ofNat_eq_natCast]; omega) (by simp only [Int.ofNat_eq_natCast]; omega) w hT).mono ?_
      rintro e w' ⟨rfl, k, os, rfl⟩
      refine ⟨_, _, g, ⟨rfl, rfl⟩, R.below (below_grow w k os), Agree.refl _ _, Nat.le_refl _, ?_⟩
      simp only [ERel, VRel]
      congr 3
      unfold Lib.itoa
      have : ¬ (Int.ofNat n < 0) := by simp only [Int.ofNat_eq_natCast]; omega
      rw [if_neg this, dig_eq 20 n [] (by omega)]
      simp
    · cases hp
  · cases hp

theorem join_eq (sep : List UInt8) : ∀ l : List (List UInt8), join sep l = Lib.join l sep
  | [] => rfl
  | [s] => by simp [join, Lib.join_one]
  | s :: t :: l => by
    have ih := join_eq sep (t :: l)
    simp only [join]
    rw [ih, Lib.join_cons, Lib.join_cons]
    simp [Lib.joinTail]

theorem strs_rel {g : G} {N : Nat} : ∀ {l : List V} {xs : List Value} {ss : List (List UInt8)}, VsRel g N l xs → strs? l = some ss → xs = (ss.map fun s => (⟨s.toArray⟩ : ByteArray)).map Value.string
  | [], xs, ss, h, hs => by
    simp only [VsRel] at h
    simp [strs?] at hs
    subst h; subst hs; rfl
  | v :: l, xs, ss, h, hs => by
    simp only [VsRel] at h
    obtain ⟨y, ys, rfl, h1, h2⟩ := h
    unfold strs? at hs
    split at hs
    · rename_i e; cases e
    · rename_i s l' e
      injection e with e1 e2
      subst e1; subst e2
      cases hr : strs? l with
      | none => simp [hr] at hs
      | some r =>
        simp [hr] at hs
        subst hs
        simp only [VRel] at h1
        rw [h1, strs_rel h2 hr]
        rfl
    · cases hs

theorem tr_Join : FnOK Tryz.prog 139 (.prim pJoin) := by
  intro vs h v d hp
  unfold pJoin at hp
  split at hp
  · rename_i s n sep
    split at hp
    · rename_i hn
      simp only [Option.some.injEq, Prod.mk.injEq] at hp
      obtain ⟨rfl, rfl⟩ := hp
      refine ⟨by kernel_rfl, fun cb hL g w xs R hx => ?_⟩
      obtain ⟨a, b, rfl, h1, h2⟩ := hx.two
      simp only [VRel] at h1 h2
      obtain ⟨_, rfl⟩ := h1
      subst h2
      refine (Tryz.strings_Join_none0 _ _ _ w).mono ?_
      rintro e w' ⟨rfl, rfl⟩
      exact ⟨_, _, g, ⟨rfl, rfl⟩, R, Agree.refl _ _, Nat.le_refl _, by simp [ERel, VRel]⟩
    · cases hp
  · rename_i b o s n sep
    split at hp
    · rename_i l hl
      split at hp
      · rename_i ss hss
        split at hp
        · rename_i hb
          simp only [Option.some.injEq, Prod.mk.injEq] at hp
          obtain ⟨rfl, rfl⟩ := hp
          refine ⟨by kernel_rfl, fun cb hL g w xs R hx => ?_⟩
          obtain ⟨x, y, rfl, h1, h2⟩ := hx.two
          simp only [VRel] at h1 h2
          obtain ⟨hbN, cc, hc1, hc2, hc3, rfl⟩ := h1
          subst h2
          obtain ⟨m, hm, hlen, rfl⟩ := load_some hl
          obtain ⟨ys, q1, q2, q3⟩ := R.cells hm hlen
          have hys := strs_rel q1 hss
          have hsl : (ss.map fun s => (⟨s.toArray⟩ : ByteArray)).length = n := by
            rw [← q2, hys]; simp
          have hmap : ((ss.map fun s => (⟨s.toArray⟩ : ByteArray)).map (·.data.toList)) = ss := by
            rw [List.map_map]
            conv => rhs; rw [← List.map_id ss]
            apply List.map_congr_left
            intro s _; simp
          have hlt : g.ι b < w.heap.size := R.lt hm
          have := Tryz.strings_Join0 (g.ι b) o cc (ss.map fun s => (⟨s.toArray⟩ : ByteArray)) ⟨sep.toArray⟩ w (fun j x hj => by
              have := q3 j (.string x) (by rw [hys]; simp only [List.getElem?_map, hj, Option.map_some])
              have hadd : (⟨g.ι b, o, none⟩ : Addr).add j = ⟨g.ι b, o + j, none⟩ := by unfold Addr.add; split <;> simp_all
              rwa [hadd] at this) hlt (by rw [hsl]; exact hb.2) (by rw [hsl]; exact hc1) (by
              rw [hmap]
              have := hb.1
              rw [join_eq] at this
              simpa using this)
          rw [hsl] at this
          refine this.mono ?_
          rintro e w' ⟨rfl, hbw⟩
          refine ⟨_, _, g, ⟨rfl, rfl⟩, R.below hbw, Agree.refl _ _, Nat.le_refl _, ?_⟩
          simp only [ERel, VRel]
          rw [hmap, join_eq]
        · cases hp
      · cases hp
    · cases hp
  · cases hp
end Go.Ab
