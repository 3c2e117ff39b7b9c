/- Tl2None: for every deed, every values and number the law returns true, and each argument reads as it did; by an evaluator of the compiled code that is proved sound for the model. Part 7 of 11. -/
import Derived.Test.YtfncjdkfedlnaaaGreatNone6
import Derived.Laws.Sem
set_option linter.unusedSimpArgs false
set_option linter.unusedVariables false

/- Soundness of comparisons. -/
namespace Ev
open Go

section
variable {P : Program} {ρ : Rho} {w : World}

theorem run_program : (program).run P w = .ok P w := rfl

theorem arr_run {el : TypeId} {sz : Nat} {g : Bool} {e : EqK} {D : Nat} (hs : shapeT P el = some (sz, g)) (H : ∀ (x y x' y' : Value) (b : Bool), eqv e x y = some b → VR ρ x x' → VR ρ y y' → (Op.equalIn D el x' y').run P w = .ok b w) :
    ∀ (is : List Nat) (xs ys : List Value) (xs' ys' : Array Value) (b : Bool), eqFs (is.map fun i => (i * sz, sz, g, e)) xs ys = some b → VRL ρ xs xs'.toList → VRL ρ ys ys'.toList →
      (forIn (m := Sem) is ((none : Option Bool), ()) fun i _ => do
          let x ← part el xs' (i * sz)
          let y ← part el ys' (i * sz)
          let b ← Op.equalIn D el x y
          if (!b) = true then pure (ForInStep.done (some false, ())) else pure (ForInStep.yield (none, ()))).run P w = .ok (if b then none else some false, ()) w := by
  intro is
  induction is with
  | nil =>
    intro xs ys xs' ys' b hb hx hy
    simp only [List.map_nil, eqFs, Option.some.injEq] at hb; subst hb
    rfl
  | cons i is ih =>
    intro xs ys xs' ys' b hb hx hy
    simp only [List.map_cons, eqFs] at hb
    split at hb <;> first | simp at hb; done | skip
    rename_i x y hpx hpy
    obtain ⟨x', hx1, hx2⟩ := part_run (w := w) hs hx hpx
    obtain ⟨y', hy1, hy2⟩ := part_run (w := w) hs hy hpy
    simp only [List.forIn_cons]
    rw [run_bind, run_bind_ok hx1, run_bind_ok hy1]
    split at hb
    · rename_i hev
      rw [run_bind_ok (H x y x' y' true hev hx2 hy2)]
      exact ih xs ys xs' ys' b hb hx hy
    · rename_i hev
      simp only [Option.some.injEq] at hb; subst hb
      rw [run_bind_ok (H x y x' y' false hev hx2 hy2)]
      rfl
    · simp at hb

mutual
theorem eqv_run : ∀ (d : Nat) (t : TypeId) (e : EqK), cEq P d t = some e → ∀ (x y x' y' : Value) (b : Bool), eqv e x y = some b → VR ρ x x' → VR ρ y y' →
    ∀ D, d ≤ D → (Op.equalIn D t x' y').run P w = .ok b w
  | 0, _, _, h => by simp [cEq] at h
  | d + 1, t, e, h => by
    intro x y x' y' b hb hx hy D hD
    obtain ⟨D, rfl⟩ : ∃ m, D = m + 1 := ⟨D - 1, by omega⟩
    have hD' : d ≤ D := by omega
    clear hD
    simp only [cEq] at h
    cases hu : P.underlying t with
    | none => simp [hu] at h
    | some u =>
      simp only [Op.equalIn]
      rw [run_bind_ok (run_under hu)]
      simp only [hu] at h
      cases u with
      | bool =>
        simp only [Option.some.injEq] at h; subst h
        cases x <;> cases y <;> simp only [eqv] at hb <;> first | simp at hb; done | skip
        cases hx; cases hy
        simp only [Option.some.injEq] at hb; subst hb
        rfl
      | int k =>
        simp only [Option.some.injEq] at h; subst h
        cases x <;> cases y <;> simp only [eqv] at hb <;> first | simp at hb; done | skip
        cases hx; cases hy
        split at hb <;> first | simp at hb; done | skip
        rename_i hk
        simp only [Option.some.injEq] at hb; subst hb
        simp only [hk, if_true]
        rfl
      | string =>
        simp only [Option.some.injEq] at h; subst h
        cases x <;> cases y <;> simp only [eqv] at hb <;> first | simp at hb; done | skip
        cases hx; cases hy
        simp only [Option.some.injEq] at hb; subst hb
        rfl
      | pointer el =>
        simp only [] at h
        split at h <;> first | simp at h; done | skip
        rename_i k hk
        simp only [Option.some.injEq] at h; subst h
        cases x with
        | pointer a => cases y with
          | pointer a2 => cases a with
            | none =>
              cases hx
              simp only [eqv, Option.some.injEq] at hb; subst hb
              cases hy <;> rfl
            | some a => cases a2 with
              | none =>
                simp only [eqv, Option.some.injEq] at hb; subst hb
                cases hx; cases hy; rfl
              | some a2 =>
                simp only [eqv] at hb
                split at hb <;> first | simp at hb; done | skip
                rename_i hbl
                simp only [Option.some.injEq] at hb; subst hb
                cases hx with
                | ptr h1 => cases hy with
                  | ptr h2 =>
                    rename_i b1 o1 b1' r1 s1 b2 o2 b2' r2 s2
                    have hbl' : b1 = b2 := hbl
                    subst hbl'
                    rw [h1] at h2
                    simp only [Option.some.injEq, Prod.mk.injEq] at h2
                    obtain ⟨rfl, rfl⟩ := h2
                    rw [run_bind_ok (run_size hk)]
                    simp only [ne_eq, Nat.add_eq_zero_iff, Nat.succ_ne_self, and_false, not_false_eq_true, if_true, sameAddr, beq_self_eq_true]
                    have : ((⟨b1', o1, none⟩ : Addr) == ⟨b1', o2, none⟩) = (o1 == o2) := by
                      by_cases h : o1 = o2
                      · rw [h, beq_self_eq_true, beq_self_eq_true]
                      · rw [beq_eq_false_iff_ne.2 h, beq_eq_false_iff_ne]
                        intro he; injection he; exact h ‹_›
                    rw [this]; rfl
          | _ => cases a <;> simp [eqv] at hb
        | _ => cases y <;> simp [eqv] at hb
      | interface ms =>
        simp only [Option.some.injEq] at h; subst h
        cases x <;> cases y <;> simp only [eqv] at hb <;> first | simp at hb; done | skip
        all_goals
          simp only [Option.some.injEq] at hb; subst hb
          cases hx; cases hy; rfl
      | slice el =>
        simp only [Option.some.injEq] at h; subst h
        cases x with
        | slice a n c => cases y with
          | slice a2 n2 c2 => cases a with
            | none =>
              simp only [eqv] at hb
              split at hb <;> first | simp at hb; done | skip
              rename_i hc
              simp only [Option.some.injEq] at hb; subst hb
              cases hx with
              | sliceN _ _ h1 => cases hy <;> first | rfl | (exfalso; exact Nat.lt_irrefl _ hc.2)
              | sliceE a' c' => exact absurd hc.1 (Nat.lt_irrefl _)
            | some a => cases a2 with
              | none =>
                simp only [eqv] at hb
                split at hb <;> first | simp at hb; done | skip
                rename_i hc
                simp only [Option.some.injEq] at hb; subst hb
                cases hy with
                | sliceN _ _ h1 => cases hx <;> rfl
                | sliceE a' c' => exact absurd hc (Nat.lt_irrefl _)
              | some a2 => simp [eqv] at hb
          | _ => cases a <;> simp [eqv] at hb
        | _ => cases y <;> simp [eqv] at hb
      | map k el =>
        simp only [Option.some.injEq] at h; subst h
        cases x with
        | map a => cases y with
          | map a2 => cases a with
            | none =>
              simp only [eqv, Option.some.injEq] at hb; subst hb
              cases hx; cases hy <;> rfl
            | some a => cases a2 with
              | none =>
                simp only [eqv, Option.some.injEq] at hb; subst hb
                cases hx; cases hy; rfl
              | some a2 => simp [eqv] at hb
          | _ => cases a <;> simp [eqv] at hb
        | _ => cases y <;> simp [eqv] at hb
      | func ps rs v =>
        simp only [Option.some.injEq] at h; subst h
        cases x <;> cases y <;> simp only [eqv] at hb <;> first | simp at hb; done | skip
        all_goals
          simp only [Option.some.injEq] at hb; subst hb
          cases hx <;> cases hy <;> rfl
      | struct fields =>
        simp only [] at h
        split at h <;> first | simp at h; done | skip
        rename_i hst
        split at h <;> first | simp at h; done | skip
        rename_i l hl
        simp only [Option.some.injEq] at h; subst h
        cases x <;> cases y <;> simp only [eqv] at hb <;> first | simp at hb; done | skip
        cases hx with
        | agg hx => cases hy with
          | agg hy =>
            simp only []
            rw [run_bind_ok run_program]
            have hst' : P.stoodInHeld t = false := by simpa using hst
            simp only [hst', Bool.false_eq_true, if_false, ← Array.forIn_toList]
            have := eqFs_run d fields.toList l hl _ _ _ _ b hb hx hy D hD'
            rw [run_bind_ok this]
            cases b <;> rfl
      | array n el =>
        simp only [] at h
        split at h <;> first | simp at h; done | skip
        rename_i sz g e' hsh he'
        simp only [Option.some.injEq] at h; subst h
        cases x <;> cases y <;> simp only [eqv] at hb <;> first | simp at hb; done | skip
        cases hx with
        | agg hx => cases hy with
          | agg hy =>
            simp only []
            rw [run_bind_ok (run_size (shapeT_some hsh).2.1)]
            simp only [Std.Legacy.Range.forIn_eq_forIn_range', Std.Legacy.Range.size]
            have := arr_run (w := w) hsh (fun x y x' y' b hb hx hy => eqv_run d el e' he' x y x' y' b hb hx hy D hD') (List.range n) _ _ _ _ b hb hx hy
            rw [List.range_eq_range'] at this
            rw [run_bind_ok (by simpa using this)]
            cases b <;> rfl
      | _ => simp at h
  termination_by d => (d, 0)
theorem eqFs_run : ∀ (d : Nat) (fs : List Field) (l : List (Nat × Nat × Bool × EqK)), cEqFs P (cEq P d) fs = some l →
    ∀ (xs ys : List Value) (xs' ys' : Array Value) (b : Bool), eqFs l xs ys = some b → VRL ρ xs xs'.toList → VRL ρ ys ys'.toList → ∀ D, d ≤ D →
      (forIn (m := Sem) fs ((none : Option Bool), ()) fun f _ =>
        if f.name ≠ "_" then do
          let x ← part f.type xs' f.offset
          let y ← part f.type ys' f.offset
          let b ← Op.equalIn D f.type x y
          if (!b) = true then pure (ForInStep.done (some false, ())) else pure (ForInStep.yield (none, ()))
        else pure (ForInStep.yield (none, ()))).run P w = .ok (if b then none else some false, ()) w
  | d, [], l, h => by
    intro xs ys xs' ys' b hb hx hy D hD
    simp only [cEqFs, Option.some.injEq] at h; subst h
    simp only [eqFs, Option.some.injEq] at hb; subst hb
    rfl
  | d, f :: fs, l, h => by
    intro xs ys xs' ys' b hb hx hy D hD
    simp only [cEqFs] at h
    split at h <;> first | simp at h; done | skip
    rename_i hn
    split at h <;> first | simp at h; done | skip
    rename_i n g e l' hs he hl
    simp only [Option.some.injEq] at h; subst h
    simp only [eqFs] at hb
    split at hb <;> first | simp at hb; done | skip
    rename_i x y hpx hpy
    obtain ⟨x', hx1, hx2⟩ := part_run (w := w) hs hx hpx
    obtain ⟨y', hy1, hy2⟩ := part_run (w := w) hs hy hpy
    simp only [List.forIn_cons, ne_eq, hn, not_false_eq_true, if_true]
    rw [run_bind, run_bind_ok hx1, run_bind_ok hy1]
    split at hb
    · rename_i hev
      rw [run_bind_ok (eqv_run d f.type e he x y x' y' true hev hx2 hy2 D hD)]
      exact eqFs_run d fs l' hl xs ys xs' ys' b hb hx hy D hD
    · rename_i hev
      simp only [Option.some.injEq] at hb; subst hb
      rw [run_bind_ok (eqv_run d f.type e he x y x' y' false hev hx2 hy2 D hD)]
      rfl
    · simp at hb
  termination_by d fs => (d, fs.length + 1)
end
end
end Ev

/- Soundness of all operations that touch no memory. -/
namespace Ev
open Go

section
variable {P : Program} {ρ : Rho} {w : World}

theorem val_run {s : Sem Value} {v : Value} {w' : World} (h : s.run P w = .ok v w') : (do pure (Next.value (← s)) : Sem Next).run P w = .ok (.value v) w' := by
  rw [run_bind_ok h]; rfl

theorem unit_run {s : Sem Unit} {w' : World} (h : s.run P w = .ok () w') : (do s; pure Next.skip : Sem Next).run P w = .ok .skip w' := by
  rw [run_bind_ok h]; rfl

theorem ptr_add {b o b' r : Nat} (n : Nat) (h : ρ b = some (b', r)) : VR ρ (.pointer (some (adv ⟨b, o, none⟩ n))) (.pointer (some (Addr.add ⟨b', o, none⟩ n))) := by
  unfold adv Addr.add
  split
  · rename_i h0; subst h0; exact .ptr h
  · exact .ptr h

theorem add_eq (b o n : Nat) : Addr.add ⟨b, o, none⟩ n = ⟨b, o + n, none⟩ := by
  unfold Addr.add; split
  · rename_i h; subst h; rfl
  · rfl

theorem bound_run {v v' : Value} {top n : Nat} {d : Nat} (code : BoundsCode) (h : bnd (some v) d top = some n) (hv : VR ρ v v') :
    (Instr.sliceBound v' top code).run P w = .ok n w ∧ n ≤ top := by
  cases v <;> simp only [bnd] at h <;> first | simp at h; done | skip
  rename_i k i
  split at h <;> first | simp at h; done | skip
  rename_i hi
  simp only [Option.some.injEq] at h
  subst h
  cases hv
  refine ⟨?_, by omega⟩
  simp [Instr.sliceBound, asIntOf, hi]

theorem slStr_sound {s : ByteArray} {lo hi : Option Value} {lo' hi' : Option Value} {v : Value} (hl : ∀ x, lo = some x → ∃ x', lo' = some x' ∧ VR ρ x x') (hl0 : lo = none → lo' = none)
    (hh : ∀ x, hi = some x → ∃ x', hi' = some x' ∧ VR ρ x x') (hh0 : hi = none → hi' = none) (h : slStrV s lo hi = some v) :
    (Instr.sliceBounds false s.size s.size lo' hi' none).run P w = .ok ((match bnd lo 0 ((bnd hi s.size s.size).getD 0) with | some l => l | none => 0), (bnd hi s.size s.size).getD 0, s.size) w ∧
      v = .string (s.extract (match bnd lo 0 ((bnd hi s.size s.size).getD 0) with | some l => l | none => 0) ((bnd hi s.size s.size).getD 0)) := by
  unfold slStrV at h
  cases hb : bnd hi s.size s.size with
  | none => simp [hb] at h
  | some hn =>
    simp only [hb] at h
    cases hb2 : bnd lo 0 hn with
    | none => simp [hb2] at h
    | some ln =>
      simp only [hb2, Option.some.injEq] at h
      subst h
      simp only [Option.getD_some, hb2, and_true]
      cases hi with
      | none =>
        have e := hh0 rfl; subst e
        simp only [bnd, Option.some.injEq] at hb; subst hb
        cases lo with
        | none => have e := hl0 rfl; subst e; simp only [bnd, Option.some.injEq] at hb2; subst hb2; simp [Instr.sliceBounds]
        | some l => obtain ⟨l', rfl, hl'⟩ := hl _ rfl; have := bound_run (P := P) (w := w) .sliceB hb2 hl'; simp [Instr.sliceBounds, this.1]
      | some hv =>
        obtain ⟨hv', rfl, hhv⟩ := hh _ rfl
        have h1 := bound_run (P := P) (w := w) .sliceAlen hb hhv
        cases lo with
        | none => have e := hl0 rfl; subst e; simp only [bnd, Option.some.injEq] at hb2; subst hb2; simp [Instr.sliceBounds, h1.1]
        | some l => obtain ⟨l', rfl, hl'⟩ := hl _ rfl; have := bound_run (P := P) (w := w) .sliceB hb2 hl'; simp [Instr.sliceBounds, h1.1, this.1]

/-- An optional operand's values. -/
def OV (ρ : Rho) (x x' : Option Value) : Prop := (∀ v, x = some v → ∃ v', x' = some v' ∧ VR ρ v v') ∧ (x = none → x' = none)

/-- The bounds of a slice expression over a slice or an array, whose place ends at 'c', and which has 'n' elements. -/
theorem bounds_run {isSlice : Bool} {n c m h l : Nat} {lo hi mx lo' hi' mx' : Option Value} (hlo : OV ρ lo lo') (hhi : OV ρ hi hi') (hmx : OV ρ mx mx')
    (hno : ¬ (mx'.isSome ∧ hi'.isNone)) (h1 : bnd mx c c = some m) (h2 : bnd hi n m = some h) (h3 : bnd lo 0 h = some l) :
    (Instr.sliceBounds isSlice n c lo' hi' mx').run P w = .ok (l, h, m) w := by
  have hl : ∀ (code : BoundsCode) (hh mm : Nat), Sem.run P (match lo' with
      | some v => (fun a => (a, hh, mm)) <$> Instr.sliceBound v h code
      | none => pure (0, hh, mm)) w = Result.ok (l, hh, mm) w := by
    intro code hh mm
    cases lo with
    | none => have e := hlo.2 rfl; subst e; simp only [bnd, Option.some.injEq] at h3; subst h3; rfl
    | some v => obtain ⟨v', rfl, hv⟩ := hlo.1 _ rfl; simp [(bound_run (P := P) (w := w) code h3 hv).1]
  cases mx with
  | none =>
    have e := hmx.2 rfl; subst e
    simp only [bnd, Option.some.injEq] at h1; subst h1
    cases hi with
    | none => have e := hhi.2 rfl; subst e; simp only [bnd, Option.some.injEq] at h2; subst h2; simp [Instr.sliceBounds]; exact hl _ _ _
    | some v => obtain ⟨v', rfl, hv⟩ := hhi.1 _ rfl; simp [Instr.sliceBounds, (bound_run (P := P) (w := w) _ h2 hv).1]; exact hl _ _ _
  | some mv =>
    obtain ⟨mv', rfl, hmv⟩ := hmx.1 _ rfl
    cases hi with
    | none => have e := hhi.2 rfl; subst e; simp at hno
    | some v => obtain ⟨v', rfl, hv⟩ := hhi.1 _ rfl; simp [Instr.sliceBounds, (bound_run (P := P) (w := w) _ h1 hmv).1, (bound_run (P := P) (w := w) _ h2 hv).1]; exact hl _ _ _

theorem bnd_le {v : Option Value} {d top n : Nat} (h : bnd v d top = some n) (hd : d ≤ top) : n ≤ top := by
  unfold bnd at h
  split at h
  · simp at h; omega
  · split at h <;> simp at h; omega
  · simp at h

theorem slExact_sound {size n c : Nat} {a a' : Option Addr} {lo hi mx lo' hi' mx' : Option Value} {v : Value} {t : Bool} (hlo : OV ρ lo lo') (hhi : OV ρ hi hi') (hmx : OV ρ mx mx')
    (hno : ¬ (mx'.isSome ∧ hi'.isNone)) (hc : c < unk) (ha : VR ρ (.pointer a) (.pointer a')) (h : slExact size a n c lo hi mx = some v) :
    ∃ l h m, (Instr.sliceBounds t n c lo' hi' mx').run P w = .ok (l, h, m) w ∧ VR ρ v (.slice (if m = l then a' else a'.map (·.add (l * size))) (h - l) (m - l)) := by
  unfold slExact at h
  split at h <;> first | simp at h; done | skip
  rename_i m hm
  split at h <;> first | simp at h; done | skip
  rename_i hn hh
  split at h <;> first | simp at h; done | skip
  rename_i l hl
  simp only [Option.some.injEq] at h; subst h
  have hmc := bnd_le hm (Nat.le_refl _)
  refine ⟨l, hn, m, bounds_run hlo hhi hmx hno hm hh hl, ?_⟩
  cases ha with
  | ptrN => simp only [Option.map_none, ite_self]; exact .sliceN _ _ (by omega)
  | ptr hb =>
    split
    · exact .slice hb (by omega)
    · simp only [Option.map_some, add_eq, adv]; exact .slice hb (by omega)

theorem slSl_sound {size : Nat} {x x' : Value} {lo hi mx lo' hi' mx' : Option Value} {v : Value} {el t : TypeId} (ht : P.underlying t = some (.slice el)) (hs : sizeT P el = some size)
    (hlo : OV ρ lo lo') (hhi : OV ρ hi hi') (hmx : OV ρ mx mx') (hno : ¬ (mx'.isSome ∧ hi'.isNone)) (hx : VR ρ x x') (h : slSlV size x lo hi mx = some v) :
    ∃ v', (Instr.slice t x' lo' hi' mx').run P w = .ok v' w ∧ VR ρ v v' := by
  unfold slSlV at h
  split at h <;> first | simp at h; done | skip
  rename_i a n c
  cases hb : Nat.blt c unk with
  | true =>
    simp only [hb, cond_true] at h
    have hc : c < unk := by simpa [Nat.blt_eq] using hb
    have key : ∀ a', VR ρ (.pointer a) (.pointer a') → x' = .slice a' n c → ∃ v', (Instr.slice t x' lo' hi' mx').run P w = .ok v' w ∧ VR ρ v v' := by
      intro a' ha hx'
      subst hx'
      obtain ⟨l, hn, m, h1, h2⟩ := slExact_sound (P := P) (w := w) (t := true) hlo hhi hmx hno hc ha h
      refine ⟨_, ?_, h2⟩
      simp only [Instr.slice]
      rw [run_bind_ok (run_under ht)]
      simp only []
      rw [run_bind_ok h1]
      simp only []
      rw [run_bind_ok (run_size hs)]
      rfl
    cases hx with
    | sliceN _ _ _ => exact key none .ptrN rfl
    | slice h1 _ => exact key _ (.ptr h1) rfl
    | sliceU => exfalso; omega
    | sliceE => exact absurd hc (by decide)
  | false =>
    simp only [hb, cond_false] at h
    have hc : ¬ c < unk := by intro h'; have : Nat.blt c unk = true := by simpa [Nat.blt_eq] using h'
                              rw [hb] at this; cases this
    cases hx with
    | sliceN _ _ h1 => exact absurd h1 hc
    | slice _ h1 => exact absurd h1 hc
    | sliceE a' c' =>
      simp only [] at h
      split at h <;> first | simp at h; done | skip
      rename_i i1 i2 i3 hm hh hl
      simp only [Option.some.injEq] at h; subst h
      have e1 := bnd_le hm (Nat.le_refl _)
      have e2 := bnd_le hh (Nat.le_refl _)
      have e3 := bnd_le hl (Nat.le_refl _)
      have z1 : i1 = 0 := by omega
      have z2 : i2 = 0 := by omega
      have z3 : i3 = 0 := by omega
      subst z1; subst z2; subst z3
      have hm' : ∃ m, bnd mx c' c' = some m := by
        cases mx with
        | none => exact ⟨c', rfl⟩
        | some v =>
          cases v <;> simp only [bnd] at hm <;> first | simp at hm; done | skip
          rename_i k i
          split at hm <;> first | simp at hm; done | skip
          rename_i hi0
          exact ⟨i.toNat, by simp only [bnd]; rw [if_pos (by omega)]⟩
      obtain ⟨m, hm'⟩ := hm'
      have hh' : bnd hi 0 m = some 0 := by
        cases hi with
        | none => rfl
        | some v =>
          cases v <;> simp only [bnd] at hh <;> first | simp at hh; done | skip
          split at hh <;> first | simp at hh; done | skip
          simp only [bnd]; rw [if_pos (by omega)]; exact hh
      have h1 := bounds_run (P := P) (w := w) (isSlice := true) hlo hhi hmx hno hm' hh' hl
      refine ⟨.slice (if m = 0 then a' else a'.map (·.add (0 * size))) 0 (m - 0), ?_, .sliceE _ _⟩
      · simp only [Instr.slice]
        rw [run_bind_ok (run_under ht)]
        simp only []
        rw [run_bind_ok h1]
        simp only []
        rw [run_bind_ok (run_size hs)]
        simp only [Nat.sub_self]
        rfl
    | @sliceU b o b' r n' c' e sp hρ hn hr he =>
      simp only [] at h
      cases hq : Nat.beq (unk + e) (unk + size) with
      | false => simp [hq] at h
      | true =>
        have hes : e = size := by have := Nat.eq_of_beq_eq_true hq; omega
        subst hes
        simp only [hq, cond_true] at h
        have fin : ∀ l hn m, (Instr.sliceBounds true n c' lo' hi' mx').run P w = .ok (l, hn, m) w →
            (Instr.slice t (.slice (some ⟨b', o, none⟩) n c') lo' hi' mx').run P w = .ok (.slice (if m = l then some ⟨b', o, none⟩ else (some ⟨b', o, none⟩ : Option Addr).map (·.add (l * e))) (hn - l) (m - l)) w := by
          intro l hn m h1
          simp only [Instr.slice]
          rw [run_bind_ok (run_under ht)]
          simp only []
          rw [run_bind_ok h1]
          simp only []
          rw [run_bind_ok (run_size hs)]
          rfl
        unfold slUnk at h
        cases mx with
        | none =>
          simp only [] at h
          split at h <;> first | simp at h; done | skip
          rename_i hn' hh
          split at h <;> first | simp at h; done | skip
          rename_i l hl
          have e1 := bnd_le hh (Nat.le_refl _)
          have e2 := bnd_le hl (Nat.zero_le _)
          have hh' : bnd hi n c' = some hn' := by
            cases hi with
            | none => exact hh
            | some v =>
              cases v <;> simp only [bnd] at hh <;> first | simp at hh; done | skip
              split at hh <;> first | simp at hh; done | skip
              simp only [bnd]; rw [if_pos (by omega)]; exact hh
          have h1 := bounds_run (P := P) (w := w) (isSlice := true) (n := n) (c := c') hlo hhi hmx hno rfl hh' hl
          refine ⟨_, fin _ _ _ h1, ?_⟩
          split at h
          · rename_i hl0; subst hl0
            simp only [Option.some.injEq] at h; subst h
            simp only [Nat.zero_mul, Option.map_some, add_eq, Nat.add_zero, ite_self, Nat.sub_zero]
            exact .sliceU hρ (by omega) hr he
          · split at h
            · simp only [Option.some.injEq] at h; subst h
              rw [if_neg (by omega)]
              simp only [Option.map_some, add_eq, adv]
              refine .sliceU hρ (by omega) ?_ he
              have : l * e + (c' - l) * e = c' * e := by rw [← Nat.add_mul]; congr 1; omega
              omega
            · simp only [Option.some.injEq] at h; subst h
              rw [show hn' - l = 0 from by omega]
              exact .sliceE _ _
        | some mv =>
          simp only [] at h
          split at h <;> first | simp at h; done | skip
          rename_i m hm
          split at h <;> first | simp at h; done | skip
          rename_i hn' hh
          split at h <;> first | simp at h; done | skip
          rename_i l hl
          split at h <;> first | simp at h; done | skip
          rename_i hmu
          simp only [Option.some.injEq] at h; subst h
          have e0 := bnd_le hm (Nat.zero_le _)
          have hm' : bnd (some mv) c' c' = some m := by
            cases mv <;> simp only [bnd] at hm <;> first | simp at hm; done | skip
            split at hm <;> first | simp at hm; done | skip
            simp only [bnd]; rw [if_pos (by omega)]; exact hm
          have h1 := bounds_run (P := P) (w := w) (isSlice := true) (n := n) (c := c') hlo hhi hmx hno hm' hh hl
          refine ⟨_, fin _ _ _ h1, ?_⟩
          split
          · exact .slice hρ (by omega)
          · simp only [Option.map_some, add_eq, adv]; exact .slice hρ (by omega)
end
end Ev

/- Soundness of all operations that touch no memory, together. -/
namespace Ev
open Go

section
variable {P : Program} {ρ : Rho} {w : World} {t : List Value} {a : Act}

theorem eqGuard_skip {op : BinOp} {ty : TypeId} {x y : Operand} {u v : Value} (h1 : u = .nilIface → v = .nilIface → isConstO x = true ∨ isConstO y = true)
    (h2 : ∀ cs ds, u = .agg cs → v = .agg ds → P.eqGuardType P.depth ty = false) : (eqGuard op ty x y u v).run P w = .ok () w := by
  have go : ∀ op', (op' = .eql ∨ op' = .neq) → (eqGuard op' ty x y u v).run P w = .ok () w := by
    intro op' hop
    cases u <;> cases v <;> first
      | (rcases hop with rfl | rfl <;> rfl)
      | skip
    case nilIface.nilIface =>
      have h := h1 rfl rfl
      clear h1 h2
      rcases hop with rfl | rfl <;> cases x <;> cases y <;> simp [isConstO] at h <;> rfl
    case agg.agg cs ds =>
      have h := h2 cs ds rfl rfl
      rcases hop with rfl | rfl <;> simp [eqGuard, h]
  cases op <;> first
    | exact go _ (.inl rfl)
    | exact go _ (.inr rfl)
    | rfl

theorem binOp_eql (ty : TypeId) (x y : Value) (b : Bool) (h : (Op.equalIn Op.maxDepth ty x y).run P w = .ok b w) (hi : ∀ k n k' n', x = .int k n → y ≠ .int k' n')
    (hf : ∀ k n k' n', x = .float k n → y ≠ .float k' n') (hs : ∀ s s', x = .string s → y ≠ .string s') (hc : ∀ k a b k' c d, x = .complex k a b → y ≠ .complex k' c d) :
    (binOp .eql ty x y).run P w = .ok (.bool b) w ∧ (binOp .neq ty x y).run P w = .ok (.bool (!b)) w := by
  have e1 : binOp .eql ty x y = (do pure (.bool (← Op.equal ty x y))) := by
    cases x <;> cases y <;> first
      | rfl
      | exact absurd rfl (hi _ _ _ _ rfl)
      | exact absurd rfl (hf _ _ _ _ rfl)
      | exact absurd rfl (hs _ _ rfl)
      | exact absurd rfl (hc _ _ _ _ _ _ rfl)
  have e2 : binOp .neq ty x y = (do pure (.bool (!(← Op.equal ty x y)))) := by
    cases x <;> cases y <;> first
      | rfl
      | exact absurd rfl (hi _ _ _ _ rfl)
      | exact absurd rfl (hf _ _ _ _ rfl)
      | exact absurd rfl (hs _ _ rfl)
      | exact absurd rfl (hc _ _ _ _ _ _ rfl)
  rw [e1, e2]
  have h' : (Op.equal ty x y).run P w = .ok b w := h
  exact ⟨by rw [run_bind_ok h']; rfl, by rw [run_bind_ok h']; rfl⟩

/-- What 'eqv' takes is no pair of integers, floats or strings, unless its kind says so. -/
def EqK.num : EqK → Bool
  | .int | .str => true
  | _ => false

theorem eqv_shape {e : EqK} {x y : Value} {b : Bool} (h : eqv e x y = some b) (hn : e.num = false) :
    (∀ k n, x ≠ .int k n) ∧ (∀ k n, x ≠ .float k n) ∧ (∀ s, x ≠ .string s) ∧ (∀ k a b, x ≠ .complex k a b) := by
  cases e <;> simp [EqK.num] at hn <;> cases x <;> simp [eqv] at h ⊢

theorem eqv_chan {e : EqK} {x y : Value} {b : Bool} (h : eqv e x y = some b) : (∀ r, x ≠ .chan r) ∧ (∀ r, y ≠ .chan r) := by
  unfold eqv at h
  split at h <;> first
    | (refine ⟨fun _ h => ?_, fun _ h => ?_⟩ <;> cases h; done)
    | (simp at h; done)

theorem cEq_num : ∀ {d : Nat} {ty : TypeId} {e : EqK}, cEq P d ty = some e → (∀ k, P.underlying ty ≠ some (.int k)) → P.underlying ty ≠ some .string → e.num = false := by
  intro d ty e h h1 h2
  cases d with
  | zero => simp [cEq] at h
  | succ d =>
    simp only [cEq] at h
    split at h <;> first
      | (simp only [Option.some.injEq] at h; subst h; rfl)
      | (exact absurd ‹_› (h1 _))
      | (exact absurd ‹_› h2)
      | (split at h <;> first | (simp at h; done) | (simp only [Option.some.injEq] at h; subst h; rfl) | (split at h <;> first | (simp at h; done) | (simp only [Option.some.injEq] at h; subst h; rfl)))
      | (simp at h; done)

theorem eqOp_sound {neg : Bool} {ty : TypeId} {x y : Operand} {k : MK} {v : Value} (hT : VRL ρ t a.tmps.toList) (hx : okOpd x = true) (hy : okOpd y = true)
    (h1 : ∀ k, P.underlying ty ≠ some (.int k)) (h2 : P.underlying ty ≠ some .string)
    (hc : cEqOp P neg ty x y = some k) (hv : evP k t = some v) :
    (do eqGuard (if neg then .neq else .eql) ty x y (a.eval x) (a.eval y); binOp (if neg then .neq else .eql) ty (a.eval x) (a.eval y) : Sem Value).run P w = .ok v w ∧ VR ρ v v := by
  have main : ∀ e, cEq P 4 ty = some e → k = .eq neg e x y → (∀ u v, eval t x = some u → eval t y = some v → (u = .nilIface → v = .nilIface → isConstO x = true ∨ isConstO y = true)) →
      (∀ fs, e = .st fs → P.eqGuardType P.depth ty = false) →
      (do eqGuard (if neg then .neq else .eql) ty x y (a.eval x) (a.eval y); binOp (if neg then .neq else .eql) ty (a.eval x) (a.eval y) : Sem Value).run P w = .ok v w ∧ VR ρ v v := by
    intro e he hk hg hst
    subst hk
    simp only [evP] at hv
    split at hv <;> first | simp at hv; done | skip
    rename_i u u2 hu hu2
    split at hv <;> first | simp at hv; done | skip
    rename_i r hr
    simp only [Option.some.injEq] at hv; subst hv
    have vx := eval_sound hT hx hu
    have vy := eval_sound hT hy hu2
    have hn := cEq_num he h1 h2
    obtain ⟨s1, s2, s3, s4⟩ := eqv_shape hr hn
    obtain ⟨s5, s6⟩ := eqv_chan hr
    have hrun := eqv_run (P := P) (w := w) 4 ty e he u u2 (a.eval x) (a.eval y) r hr vx vy Op.maxDepth (by decide)
    have t1 : ∀ k n, a.eval x ≠ .int k n := by intro k n hh; rw [hh] at vx; cases vx <;> first | exact s1 _ _ rfl | exact s5 _ rfl
    have t2 : ∀ k n, a.eval x ≠ .float k n := by intro k n hh; rw [hh] at vx; cases vx <;> first | exact s2 _ _ rfl | exact s5 _ rfl
    have t3 : ∀ s, a.eval x ≠ .string s := by intro k hh; rw [hh] at vx; cases vx <;> first | exact s3 _ rfl | exact s5 _ rfl
    have t4 : ∀ k c d, a.eval x ≠ .complex k c d := by intro k c d hh; rw [hh] at vx; cases vx; exact s5 _ rfl
    have hb := binOp_eql ty _ _ r hrun (fun k n _ _ h => absurd h (t1 k n)) (fun k n _ _ h => absurd h (t2 k n)) (fun s _ h => absurd h (t3 s)) (fun k c d _ _ _ h => absurd h (t4 k c d))
    have hgu : (eqGuard (if neg then .neq else .eql) ty x y (a.eval x) (a.eval y)).run P w = .ok () w := by
      refine eqGuard_skip (fun e1 e2 => hg _ _ hu hu2 ?_ ?_) (fun cs ds e1 e2 => ?_)
      · rw [e1] at vx; cases vx <;> first | rfl | exact absurd rfl (s5 _)
      · rw [e2] at vy; cases vy <;> first | rfl | exact absurd rfl (s6 _)
      · rw [e1] at vx; cases vx with
        | top _ => exact absurd rfl (s5 _)
        | agg hh =>
          cases e <;> simp [eqv] at hr
          exact hst _ rfl
    rw [run_bind_ok hgu]
    cases neg
    · exact ⟨by rw [if_neg (by decide)]; simpa using hb.1, .bool _⟩
    · refine ⟨by rw [if_pos rfl]; simpa using hb.2, .bool _⟩
  unfold cEqOp at hc
  split at hc
  · rename_i he
    split at hc <;> first | simp at hc; done | skip
    rename_i hcst
    simp only [Option.some.injEq] at hc
    exact main _ he hc.symm (fun _ _ _ _ _ _ => by simpa using hcst) (fun fs h => by cases h)
  · rename_i fs he
    split at hc <;> first | simp at hc; done | skip
    rename_i hgt
    simp only [Option.some.injEq] at hc
    refine main _ he hc.symm (fun u v hu hv' e1 e2 => ?_) (fun _ _ => by simpa using hgt)
    subst e1
    exfalso
    subst hc
    simp only [evP, hu, hv'] at hv
    simp [eqv] at hv
  · rename_i e hne hne2 he
    simp only [Option.some.injEq] at hc
    refine main _ he hc.symm (fun u v hu hv' e1 e2 => ?_) (fun fs h => absurd h (fun h => hne2 fs (by rw [← h])))
    subst e1
    exfalso
    subst hc
    simp only [evP, hu, hv', e2] at hv
    cases e <;> simp [eqv] at hv
    exact hne rfl
  · simp at hc
end
end Ev

/- Soundness of all operations that touch no memory, together. -/
namespace Ev
open Go

section
variable {P : Program} {ρ : Rho} {w : World} {t : List Value} {a : Act}

/-- What an operation yields. -/
def Gives (P : Program) (ρ : Rho) (w : World) (v : Value) (s : Sem Next) : Prop := ∃ v', s.run P w = .ok (.value v') w ∧ VR ρ v v'

theorem Gives.of {s : Sem Value} {v v' : Value} (h : s.run P w = .ok v' w) (hv : VR ρ v v') : Gives P ρ w v (do pure (.value (← s))) := ⟨v', val_run h, hv⟩

theorem P_nilCheck {x : Operand} {v : Value} (hT : VRL ρ t a.tmps.toList) (hx : okOpd x = true) (hv : evP (.nilCheck x) t = some v) :
    Gives P ρ w v (match a.eval x with
    | .pointer none | .nilIface | .nilFunc => runtimePanic .nilDeref
    | .func (.method name) first captured =>
      match (first[0]? : Option Value) with
      | some .nilIface => runtimePanic .nilDeref
      | some (.iface t w) => do
        if (← nilAhead ((← program).types.size + Made.depth) t w name) != some false then
          unsupported (.noEntry "op/nilCheck.the method's receiver behind this interface value is a nil pointer, or cannot be seen to be none, and the arguments act or may panic (ledger 612)")
        pure (.value (.func (.method name) first captured))
      | _ => pure (.value (.func (.method name) first captured))
    | x => pure (.value x)) := by
  simp only [evP] at hv
  split at hv <;> first | simp at hv; done | skip
  all_goals
    rename_i hu
    simp only [Option.some.injEq] at hv; subst hv
    have vx := eval_sound hT hx hu
    generalize a.eval x = x' at vx
    cases vx
    refine ⟨_, rfl, ?_⟩
  · exact .ptr ‹_›
  · exact .func _ ‹_› ‹_›
  · exact .yield ‹_› ‹_› ‹_›

theorem P_un {op : UnOp} {x : Operand} {v : Value} (hT : VRL ρ t a.tmps.toList) (hx : okOpd x = true) (hv : evP (.un op x) t = some v) :
    (Op.unary op (a.eval x)).run P w = .ok v w ∧ VR ρ v v := by
  simp only [evP] at hv
  split at hv <;> first | simp at hv; done | skip
  · rename_i k n hu
    have vx := eval_sound hT hx hu
    generalize a.eval x = x' at vx
    cases vx
    refine ⟨pv_run hv, ?_⟩
    cases op <;> simp only [Op.unary, Op.intArith, Op.intBits, pv, pure, stuck, Option.some.injEq] at hv <;> first | (simp at hv; done) | (subst hv; exact .int _ _)
  · rename_i b hu
    have vx := eval_sound hT hx hu
    generalize a.eval x = x' at vx
    cases vx
    refine ⟨pv_run hv, ?_⟩
    cases op <;> simp only [Op.unary, pv, pure, stuck, Option.some.injEq] at hv <;> first | (simp at hv; done) | (subst hv; exact .bool _)

theorem P_field {n : Nat} {g : Bool} {x : Operand} {v : Value} {ty : TypeId} {fields : Array Field} {f : Nat} {fd : Field} (hT : VRL ρ t a.tmps.toList) (hx : okOpd x = true)
    (hu : P.underlying ty = some (.struct fields)) (hf : fields[f]? = some fd) (hs : shapeT P fd.type = some (n, g)) (hv : evP (.field fd.offset n g x) t = some v) :
    ∃ v', (Instr.field ty (a.eval x) f).run P w = .ok v' w ∧ VR ρ v v' := by
  simp only [evP] at hv
  split at hv <;> first | simp at hv; done | skip
  rename_i cs hcs
  have vx := eval_sound hT hx hcs
  generalize a.eval x = x' at vx
  cases vx with
  | agg h =>
    obtain ⟨v', h1, h2⟩ := part_run (w := w) hs h hv
    refine ⟨v', ?_, h2⟩
    simp only [Instr.field]
    rw [run_bind_ok (run_under hu)]
    simp only [hf]
    exact h1

theorem P_index {len n : Nat} {g : Bool} {x ix : Operand} {v : Value} {ty e : TypeId} (hT : VRL ρ t a.tmps.toList) (hx : okOpd x = true) (hi : okOpd ix = true)
    (hu : P.underlying ty = some (.array len e)) (hs : shapeT P e = some (n, g)) (hv : evP (.idxArr len n g x ix) t = some v) :
    ∃ v', (Instr.index ty (a.eval x) (a.eval ix)).run P w = .ok v' w ∧ VR ρ v v' := by
  simp only [evP] at hv
  split at hv <;> first | simp at hv; done | skip
  rename_i cs k i hcs hix
  have vx := eval_sound hT hx hcs
  have vi := eval_sound hT hi hix
  generalize a.eval x = x' at vx
  generalize a.eval ix = i' at vi
  split at hv <;> first | simp at hv; done | skip
  rename_i hlt
  cases vi
  cases vx with
  | agg h =>
    obtain ⟨v', h1, h2⟩ := part_run (w := w) hs h hv
    refine ⟨v', ?_, h2⟩
    simp only [Instr.index, asIntOf]
    rw [run_bind_ok (run_pure _)]
    simp only []
    rw [run_bind_ok (run_under hu)]
    simp only [if_pos hlt]
    rw [run_bind_ok (run_size (shapeT_some hs).2.1)]
    exact h1

theorem P_indexStr {x ix : Operand} {v : Value} {ty : TypeId} (hT : VRL ρ t a.tmps.toList) (hx : okOpd x = true) (hi : okOpd ix = true)
    (hu : P.underlying ty = some .string) (hv : evP (.idxStr x ix) t = some v) : (Instr.index ty (a.eval x) (a.eval ix)).run P w = .ok v w ∧ VR ρ v v := by
  simp only [evP] at hv
  split at hv <;> first | simp at hv; done | skip
  rename_i s k i hcs hix
  have vx := eval_sound hT hx hcs
  have vi := eval_sound hT hi hix
  generalize a.eval x = x' at vx
  generalize a.eval ix = i' at vi
  split at hv <;> first | simp at hv; done | skip
  rename_i h0
  split at hv <;> first | simp at hv; done | skip
  rename_i b hb
  simp only [Option.some.injEq] at hv; subst hv
  cases vi; cases vx
  refine ⟨?_, .int _ _⟩
  simp only [Instr.index, asIntOf]
  rw [run_bind_ok (run_pure _)]
  simp only []
  rw [run_bind_ok (run_under hu)]
  simp only [if_pos h0, hb]
  rfl

theorem P_fieldAddr {x : Operand} {v : Value} {ty : TypeId} {fields : Array Field} {f k : Nat} {fd : Field} (hT : VRL ρ t a.tmps.toList) (hx : okOpd x = true)
    (hu : P.underlying ty = some (.struct fields)) (hf : fields[f]? = some fd) (hs : sizeT P fd.type = some (k + 1)) (hv : evP (.fieldAddr fd.offset x) t = some v) :
    ∃ v', (Instr.fieldAt ty (a.eval x) f).run P w = .ok v' w ∧ VR ρ v v' := by
  simp only [evP] at hv
  split at hv <;> first | simp at hv; done | skip
  rename_i ad hcs
  simp only [Option.some.injEq] at hv; subst hv
  have vx := eval_sound hT hx hcs
  generalize a.eval x = x' at vx
  cases vx with
  | ptr h =>
    refine ⟨_, ?_, ptr_add fd.offset h⟩
    simp only [Instr.fieldAt]
    rw [run_bind_ok (run_under hu)]
    simp only [hf, Instr.sureAddr]
    rw [run_bind_ok (run_pure _)]
    simp only [fieldPlace]
    rw [run_bind, run_bind_ok (run_size hs)]
    simp only [Nat.add_eq_zero_iff, Nat.succ_ne_self, and_false, if_false]
    rfl

theorem P_adArr {len n : Nat} {x ix : Operand} {v : Value} {ty e : TypeId} (hT : VRL ρ t a.tmps.toList) (hx : okOpd x = true) (hi : okOpd ix = true)
    (hu : P.underlying ty = some (.array len e)) (hs : sizeT P e = some n) (hv : evP (.adArr len n x ix) t = some v) :
    ∃ v', (Instr.indexAt ty (a.eval x) (a.eval ix)).run P w = .ok v' w ∧ VR ρ v v' := by
  simp only [evP] at hv
  split at hv <;> first | simp at hv; done | skip
  rename_i ad k i hcs hix
  have vx := eval_sound hT hx hcs
  have vi := eval_sound hT hi hix
  generalize a.eval x = x' at vx
  generalize a.eval ix = i' at vi
  split at hv <;> first | simp at hv; done | skip
  rename_i hlt
  simp only [Option.some.injEq] at hv; subst hv
  cases vi
  cases vx with
  | ptr h =>
    refine ⟨_, ?_, ptr_add (i.toNat * n) h⟩
    simp [Instr.indexAt, asIntOf, run_under hu, Instr.sureAddr, hlt, run_size hs]

theorem P_adSl {n : Nat} {x ix : Operand} {v : Value} {ty e : TypeId} (hT : VRL ρ t a.tmps.toList) (hx : okOpd x = true) (hi : okOpd ix = true)
    (hu : P.underlying ty = some (.slice e)) (hs : sizeT P e = some n) (hv : evP (.adSl n x ix) t = some v) :
    ∃ v', (Instr.indexAt ty (a.eval x) (a.eval ix)).run P w = .ok v' w ∧ VR ρ v v' := by
  simp only [evP] at hv
  split at hv <;> first | simp at hv; done | skip
  rename_i ad m c k i hcs hix
  have vx := eval_sound hT hx hcs
  have vi := eval_sound hT hi hix
  generalize a.eval x = x' at vx
  generalize a.eval ix = i' at vi
  split at hv <;> first | simp at hv; done | skip
  rename_i hlt
  simp only [Option.some.injEq] at hv; subst hv
  cases vi
  cases vx with
  | slice h _ =>
    refine ⟨_, ?_, ptr_add (i.toNat * n) h⟩
    simp [Instr.indexAt, asIntOf, run_under hu, hlt, run_size hs]
  | sliceU h _ _ _ =>
    refine ⟨_, ?_, ptr_add (i.toNat * n) h⟩
    simp [Instr.indexAt, asIntOf, run_under hu, hlt, run_size hs]

theorem OV_of {x : Option Operand} {v : Option Value} (hT : VRL ρ t a.tmps.toList) (hx : ∀ y, x = some y → okOpd y = true) (h : evalO t x = some v) : OV ρ v (x.map a.eval) := by
  have := evalO_sound hT hx h
  cases v with
  | none => simp only at this; subst this; exact ⟨(fun v h => by cases h), fun _ => rfl⟩
  | some v =>
    obtain ⟨y, rfl, hy⟩ := this
    exact ⟨(fun v' h => by cases h; exact ⟨_, rfl, hy⟩), (fun h => by cases h)⟩

theorem P_slStr {x : Operand} {lo hi : Option Operand} {v : Value} {ty : TypeId} (hT : VRL ρ t a.tmps.toList) (hx : okOpd x = true)
    (hl : ∀ y, lo = some y → okOpd y = true) (hh : ∀ y, hi = some y → okOpd y = true)
    (hu : P.underlying ty = some .string) (hv : evP (.slStr x lo hi) t = some v) :
    (Instr.sliceAt ty (a.eval x) (lo.map a.eval) (hi.map a.eval) none).run P w = .ok v w ∧ VR ρ v v := by
  simp only [evP] at hv
  split at hv <;> first | simp at hv; done | skip
  rename_i s l h hcs hlo hhi
  have vx := eval_sound hT hx hcs
  generalize a.eval x = x' at vx
  have ol := OV_of hT hl hlo
  have oh := OV_of hT hh hhi
  cases vx
  obtain ⟨h1, h2⟩ := slStr_sound (P := P) (w := w) ol.1 ol.2 oh.1 oh.2 hv
  subst h2
  refine ⟨?_, .string _⟩
  simp only [Instr.sliceAt]
  rw [run_bind_ok (run_under hu)]
  simp only [Instr.slice]
  rw [run_bind_ok (run_under hu)]
  simp only [Option.isSome_none, Bool.false_eq_true, if_false]
  show Sem.run P (do let (l, h, _) ← Instr.sliceBounds false s.size s.size (lo.map a.eval) (hi.map a.eval) none; pure (Value.string (s.extract l h))) w = _
  rw [run_bind_ok h1]
  rfl

theorem P_slSl {size : Nat} {x : Operand} {lo hi mx : Option Operand} {v : Value} {ty e : TypeId} (hT : VRL ρ t a.tmps.toList) (hx : okOpd x = true)
    (hl : ∀ y, lo = some y → okOpd y = true) (hh : ∀ y, hi = some y → okOpd y = true) (hm : ∀ y, mx = some y → okOpd y = true) (hno : ¬ (mx.isSome ∧ hi.isNone))
    (hu : P.underlying ty = some (.slice e)) (hs : sizeT P e = some size) (hv : evP (.slSl size x lo hi mx) t = some v) :
    ∃ v', (Instr.sliceAt ty (a.eval x) (lo.map a.eval) (hi.map a.eval) (mx.map a.eval)).run P w = .ok v' w ∧ VR ρ v v' := by
  simp only [evP] at hv
  split at hv <;> first | simp at hv; done | skip
  rename_i u l h m hcs hlo hhi hmx
  have vx := eval_sound hT hx hcs
  obtain ⟨v', h1, h2⟩ := slSl_sound (w := w) hu hs (OV_of hT hl hlo) (OV_of hT hh hhi) (OV_of hT hm hmx) (by simpa using hno) vx hv
  refine ⟨v', ?_, h2⟩
  simp only [Instr.sliceAt]
  rw [run_bind_ok (run_under hu)]
  exact h1

theorem P_slArr {n size : Nat} {x : Operand} {lo hi mx : Option Operand} {v : Value} {ty e : TypeId} (hT : VRL ρ t a.tmps.toList) (hx : okOpd x = true)
    (hl : ∀ y, lo = some y → okOpd y = true) (hh : ∀ y, hi = some y → okOpd y = true) (hm : ∀ y, mx = some y → okOpd y = true) (hno : ¬ (mx.isSome ∧ hi.isNone))
    (hu : P.underlying ty = some (.array n e)) (hs : sizeT P e = some size) (hn : n < unk) (hv : evP (.slArr n size x lo hi mx) t = some v) :
    ∃ v', (Instr.sliceAt ty (a.eval x) (lo.map a.eval) (hi.map a.eval) (mx.map a.eval)).run P w = .ok v' w ∧ VR ρ v v' := by
  simp only [evP] at hv
  split at hv <;> first | simp at hv; done | skip
  rename_i u l h m hcs hlo hhi hmx
  have vx := eval_sound hT hx hcs
  generalize a.eval x = x' at vx
  cases vx with
  | ptr h0 =>
    obtain ⟨l', h', m', h1, h2⟩ := slExact_sound (P := P) (w := w) (t := false) (OV_of hT hl hlo) (OV_of hT hh hhi) (OV_of hT hm hmx) (by simpa using hno) hn (.ptr h0) hv
    refine ⟨_, ?_, h2⟩
    simp only [Instr.sliceAt]
    rw [run_bind_ok (run_under hu)]
    simp only [Instr.sureAddr]
    rw [run_bind_ok (run_pure _), run_bind_ok h1]
    simp only []
    rw [run_bind_ok (run_size hs)]
    simp only [run_pure]
    split <;> rfl

theorem P_extract {x : Operand} {i : Nat} {v : Value} (hT : VRL ρ t a.tmps.toList) (hx : okOpd x = true) (hv : evP (.extract x i) t = some v) :
    ∃ v', (Instr.extract (a.eval x) i).run P w = .ok v' w ∧ VR ρ v v' := by
  simp only [evP] at hv
  split at hv <;> first | simp at hv; done | skip
  rename_i vs hcs
  have vx := eval_sound hT hx hcs
  generalize a.eval x = x' at vx
  cases vx with
  | @tuple a1 a2 h =>
    obtain ⟨v', h1, h2⟩ := h.nth hv
    refine ⟨v', ?_, h2⟩
    have h1' : a2[i]? = some v' := by simpa using h1
    simp [Instr.extract, h1']

theorem places_run {fields : List Field} {pl : List (Nat × Nat)} (h : placesOf P fields = some pl) :
    (fields.mapM fun f => do pure (f.offset, ← Go.sizeOf f.type) : Sem (List (Nat × Nat))).run P w = .ok pl w := by
  induction fields generalizing pl with
  | nil => simp only [placesOf, Option.some.injEq] at h; subst h; simp
  | cons f fs ih =>
    simp only [placesOf] at h
    split at h <;> first | simp at h; done | skip
    rename_i n l h1 h2
    simp only [Option.some.injEq] at h; subst h
    rw [List.mapM_cons, run_bind, run_bind_ok (run_size h1)]
    simp only [run_pure]
    rw [run_bind_ok (ih h2)]
    rfl

theorem P_build {parts : Array (Nat × Operand)} {z : Value} {ps : List (Nat × Nat × Operand)} {v : Value} {ty : TypeId} (hT : VRL ρ t a.tmps.toList)
    (hok : parts.toList.all (fun p => okOpd p.2) = true) (hz : zeroT P ty = some z) (hcl : z.cells.toList.all closed = true)
    (hc : (∃ fields pl, P.underlying ty = some (.struct fields) ∧ placesOf P fields.toList = some pl ∧ cParts (nth pl) parts.toList = some ps) ∨
      (∃ len e n, P.underlying ty = some (.array len e) ∧ sizeT P e = some n ∧ cParts (fun i => some (i * n, n)) parts.toList = some ps))
    (hv : evP (.build z.cells.toList ps) t = some v) :
    ∃ v', (Instr.build ty (parts.map fun (i, x) => (i, a.eval x))).run P w = .ok v' w ∧ VR ρ v v' := by
  simp only [evP] at hv
  split at hv <;> first | simp at hv; done | skip
  rename_i vs hvs
  split at hv <;> first | simp at hv; done | skip
  rename_i cs hf
  simp only [Option.some.injEq] at hv; subst hv
  have hz' : VRL ρ z.cells.toList z.cells.toList := closed_VRL hcl
  rcases hc with ⟨fields, pl, hu, hp, hq⟩ | ⟨len, e, n, hu, hs, hq⟩
  · obtain ⟨cs', h1, h2⟩ := fill_rel hT hq hok hvs hf hz'
    refine ⟨.agg cs', ?_, .agg (by simpa using h2)⟩
    simp only [Instr.build]
    rw [run_bind_ok (run_zero hz), run_bind_ok (run_under hu)]
    simp only []
    have hm : (fields.mapM fun f => do pure (f.offset, ← Go.sizeOf f.type) : Sem (Array (Nat × Nat))).run P w = .ok pl.toArray w := by
      rw [Array.mapM_eq_mapM_toList]
      rw [Sem.run_map, places_run hp]
      rfl
    rw [run_bind_ok hm]
    have : Instr.fill (fun x => pl.toArray[x]?) z.cells (parts.map fun (i, x) => (i, a.eval x)).toList = some cs' := by
      rw [← h1]
      congr 1
      · funext i; simp [nth_eq]
      · simp
    rw [this]
    rfl
  · obtain ⟨cs', h1, h2⟩ := fill_rel hT hq hok hvs hf hz'
    refine ⟨.agg cs', ?_, .agg (by simpa using h2)⟩
    simp only [Instr.build]
    rw [run_bind_ok (run_zero hz), run_bind_ok (run_under hu)]
    simp only []
    rw [run_bind_ok (run_size hs)]
    have : Instr.fill (fun i => some (i * n, n)) z.cells (parts.map fun (i, x) => (i, a.eval x)).toList = some cs' := by
      rw [← h1]
      congr 1
      simp
    rw [this]
    rfl

theorem P_assertT {x : Operand} {z v : Value} {xt u : TypeId} {d : TypeDesc} (hT : VRL ρ t a.tmps.toList) (hx : okOpd x = true) (hu : P.underlying u = some d)
    (hni : ∀ ms, d ≠ .interface ms) (hz : zeroT P u = some z) (hcl : closed z = true) (hv : evP (.assertT u z x) t = some v) :
    ∃ v', (Instr.typeAssert (a.eval x) xt u true).run P w = .ok v' w ∧ VR ρ v v' := by
  simp only [evP] at hv
  split at hv <;> first | simp at hv; done | skip
  · rename_i hcs
    simp only [Option.some.injEq] at hv; subst hv
    have vx := eval_sound hT hx hcs
    generalize a.eval x = x' at vx
    cases vx
    refine ⟨_, ?_, .tuple (.cons (closed_VR hcl) (.cons (.bool _) .nil))⟩
    simp only [Instr.typeAssert]
    rw [run_bind_ok (run_under hu)]
    cases d <;> first
      | exact absurd rfl (hni _)
      | (simp [run_zero hz]; done)
  · rename_i ty' v0 hcs
    have vx := eval_sound hT hx hcs
    generalize a.eval x = x' at vx
    cases vx with
    | iface _ h =>
      split at hv
      · rename_i he
        simp only [Option.some.injEq] at hv; subst hv
        refine ⟨_, ?_, .tuple (.cons h (.cons (.bool _) .nil))⟩
        simp only [Instr.typeAssert]
        rw [run_bind_ok (run_under hu)]
        cases d <;> first
          | exact absurd rfl (hni _)
          | (simp [he]; done)
      · rename_i he
        simp only [Option.some.injEq] at hv; subst hv
        refine ⟨_, ?_, .tuple (.cons (closed_VR hcl) (.cons (.bool _) .nil))⟩
        simp only [Instr.typeAssert]
        rw [run_bind_ok (run_under hu)]
        cases d <;> first
          | exact absurd rfl (hni _)
          | (simp [he, run_zero hz]; done)

theorem P_call {c : Call} {o : Oper} {b : Builtin} {v : Value} {s : Sem Value} (hc : c.callee = .builtin b)
    (hb : builtin b c.argTypes o.type (c.args.map fun | .const _ => true | _ => false) (c.args.map a.eval) = (do pure (.value (← s)))) (h : Gives P ρ w v (do pure (.value (← s)))) :
    Gives P ρ w v (do let d ← resolve a.eval c o.type; invoke d.target d.args) := by
  obtain ⟨v', h1, h2⟩ := h
  refine ⟨v', ?_, h2⟩
  rw [← h1, ← hb]
  unfold resolve
  simp only [hc]
  rfl

theorem okOpd_of {o : Oper} (h : (opds o).all okOpd = true) {x : Operand} (hx : x ∈ o.op.operands.toList) : okOpd x = true := by
  simp only [opds, List.all_eq_true] at h
  exact h x hx

theorem P_sound {o : Oper} {k : MK} {v : Value} (hT : VRL ρ t a.tmps.toList) (hc : cOp P o = some k) (hk : cls k = .p) (hv : evP k t = some v) :
    Gives P ρ w v (execOp a.eval o) := by
  unfold cOp at hc
  split at hc <;> first | simp at hc; done | skip
  rename_i hok
  split at hc <;> first | simp at hc; done | skip
  rename_i k' hc0
  split at hc <;> first | simp at hc; done | skip
  rename_i hcl
  simp only [Option.some.injEq] at hc; subst hc
  have ok : ∀ x, x ∈ o.op.operands.toList → okOpd x = true := fun x hx => okOpd_of hok hx
  clear hok
  obtain ⟨dst, op, type, pos, after, guard⟩ := o
  simp only at ok
  unfold cOp0 at hc0
  simp only at hc0
  have hlen : ∀ (c : Call), op = .call c → ∀ x, x ∈ c.args.toList → okOpd x = true := by
    intro c e x hx
    subst e
    exact ok x (by simp only [Op.operands, Call.operands]; cases c.callee <;> simp [hx])
  cases op <;> try (simp at hc0; done)
  case move x => simp only [Option.some.injEq] at hc0; subst hc0; exact ⟨_, rfl, eval_sound hT (ok x (by simp [Op.operands])) hv⟩
  case assign x => simp only [Option.some.injEq] at hc0; subst hc0; exact ⟨_, rfl, eval_sound hT (ok x (by simp [Op.operands])) hv⟩
  case pick c x y =>
    simp only [Option.some.injEq] at hc0; subst hc0
    simp only [evP] at hv
    split at hv <;> first | simp at hv; done | skip
    all_goals
      rename_i hb
      have vc := eval_sound hT (ok c (by simp [Op.operands])) hb
      simp only [execOp]
      generalize a.eval c = c' at vc
      cases vc
    · exact ⟨_, rfl, eval_sound hT (ok x (by simp [Op.operands])) hv⟩
    · exact ⟨_, rfl, eval_sound hT (ok y (by simp [Op.operands])) hv⟩
  case nilCheck x => simp only [Option.some.injEq] at hc0; subst hc0; exact P_nilCheck hT (ok x (by simp [Op.operands])) hv
  case binOp op ty x y yt =>
    have hx := ok x (by simp [Op.operands])
    have hy := ok y (by simp [Op.operands])
    have bin : k' = .bin op x y → Gives P ρ w v (execOp a.eval ⟨dst, .binOp op ty x y yt, type, pos, after, guard⟩) := by
      intro hk'
      subst hk'
      simp only [evP] at hv
      split at hv <;> first | simp at hv; done | skip
      rename_i u u2 hu hu2
      have vx := eval_sound hT hx hu
      have vy := eval_sound hT hy hu2
      have hr := binV_run (P := P) (w := w) ty vx vy hv
      refine Gives.of (v' := v) ?_ hr.2.1.VR
      have hg : (eqGuard op ty x y (a.eval x) (a.eval y)).run P w = .ok () w :=
        eqGuard_skip (fun e1 _ => by have := hr.2.2; rw [e1] at this; exact this.elim) (fun cs _ e1 _ => by have := hr.2.2; rw [e1] at this; exact this.elim)
      rw [run_bind_ok hg]
      exact hr.1
    have eqc : (∀ k, P.underlying ty ≠ some (.int k)) → P.underlying ty ≠ some .string →
        ∀ neg, op = (if neg then .neq else .eql) → cEqOp P neg ty x y = some k' → Gives P ρ w v (execOp a.eval ⟨dst, .binOp op ty x y yt, type, pos, after, guard⟩) := by
      intro h1 h2 neg hop h
      have := eqOp_sound (w := w) hT hx hy h1 h2 h hv
      subst hop
      exact Gives.of this.1 this.2
    simp only at hc0
    unfold cBin at hc0
    split at hc0
    · simp only [Option.some.injEq] at hc0; exact bin hc0.symm
    · split at hc0 <;> first | (simp only [Option.some.injEq] at hc0; exact bin hc0.symm) | (simp at hc0; done)
    · simp only [Option.some.injEq] at hc0; exact bin hc0.symm
    · rename_i h1 h2 h3
      split at hc0
      · exact eqc h1 h3 false rfl hc0
      · exact eqc h1 h3 true rfl hc0
      · simp at hc0
  case unOp op ty x =>
    simp only [Option.some.injEq] at hc0; subst hc0
    have := P_un (P := P) (w := w) hT (ok x (by simp [Op.operands])) hv
    exact Gives.of this.1 this.2
  case convert src dst' x =>
    have hx := ok x (by simp [Op.operands])
    have conv : ∀ (h : (convert src dst' (a.eval x)).run P w = .ok v w) (h2 : VR ρ v v), Gives P ρ w v (execOp a.eval ⟨dst, .convert src dst' x, type, pos, after, guard⟩) :=
      fun h h2 => Gives.of h h2
    simp only at hc0
    split at hc0
    · rename_i hs hd
      simp only [Option.some.injEq] at hc0; subst hc0
      simp only [evP] at hv
      split at hv <;> first | simp at hv; done | skip
      rename_i hu
      simp only [Option.some.injEq] at hv; subst hv
      have vx := eval_sound hT hx hu
      generalize hxx : a.eval x = x' at vx
      cases vx
      refine conv ?_ (.int _ _)
      simp [convert, hxx, run_under hs, run_under hd, Conv.intToInt]
    · rename_i hs hd
      simp only [Option.some.injEq] at hc0; subst hc0
      simp only [evP] at hv
      split at hv <;> first | simp at hv; done | skip
      rename_i hu
      simp only [Option.some.injEq] at hv; subst hv
      have vx := eval_sound hT hx hu
      generalize hxx : a.eval x = x' at vx
      cases vx
      refine conv ?_ (.float _ _)
      simp [convert, hxx, run_under hs, run_under hd, Conv.intToFloat]
    · rename_i hs hd
      simp only [Option.some.injEq] at hc0; subst hc0
      simp only [evP] at hv
      split at hv <;> first | simp at hv; done | skip
      rename_i hu
      simp only [Option.some.injEq] at hv; subst hv
      have vx := eval_sound hT hx hu
      generalize hxx : a.eval x = x' at vx
      cases vx
      refine conv ?_ (.string _)
      simp [convert, hxx, run_under hs, run_under hd]
    · split at hc0 <;> simp at hc0; subst hc0; simp [cls] at hk
    · split at hc0 <;> simp at hc0; subst hc0; simp [cls] at hk
    · simp at hc0
  case makeInterface ty x =>
    simp only at hc0
    split at hc0 <;> first | simp at hc0; done | skip
    rename_i d hne hu
    simp only [Option.some.injEq] at hc0; subst hc0
    simp only [evP] at hv
    split at hv <;> first | simp at hv; done | skip
    rename_i u hu'
    simp only [Option.some.injEq] at hv; subst hv
    refine Gives.of (v' := .iface ty (a.eval x)) ?_ (.iface _ (eval_sound hT (ok x (by simp [Op.operands])) hu'))
    simp only [Instr.makeInterface]
    rw [run_bind_ok (run_under hu)]
    cases d <;> first
      | exact absurd rfl (hne _)
      | rfl
  case makeFunc fn first captured =>
    cases fn <;> simp at hc0
    subst hc0
    simp only [evP] at hv
    split at hv <;> first | simp at hv; done | skip
    rename_i f' c' hf hc
    simp only [Option.some.injEq] at hv; subst hv
    have h1 := evals_sound hT (xs := first.toList) (by simp only [List.all_eq_true]; exact fun x hx => ok x (by simp [Op.operands]; exact .inl (by simpa using hx))) hf
    have h2 := evals_sound hT (xs := captured.toList) (by simp only [List.all_eq_true]; exact fun x hx => ok x (by simp [Op.operands]; exact .inr (by simpa using hx))) hc
    exact ⟨_, rfl, .func _ (by simpa using h1) (by simpa using h2)⟩
  case slice ty x lo hi mx =>
    have hx := ok x (by simp [Op.operands])
    have hl : ∀ y, lo = some y → okOpd y = true := fun y e => ok y (by subst e; simp [Op.operands])
    have hh : ∀ y, hi = some y → okOpd y = true := fun y e => ok y (by subst e; simp [Op.operands])
    have hm : ∀ y, mx = some y → okOpd y = true := fun y e => ok y (by subst e; simp [Op.operands])
    simp only at hc0
    split at hc0 <;> first | simp at hc0; done | skip
    rename_i hno
    split at hc0 <;> first | simp at hc0; done | skip
    · rename_i hu
      split at hc0 <;> first | simp at hc0; done | skip
      simp only [Option.some.injEq] at hc0; subst hc0
      have := P_slStr (P := P) (w := w) hT hx hl hh hu hv
      exact Gives.of this.1 this.2
    · rename_i e hu
      split at hc0 <;> first | simp at hc0; done | skip
      rename_i n hs
      simp only [Option.some.injEq] at hc0; subst hc0
      obtain ⟨v', h1, h2⟩ := P_slSl (w := w) hT hx hl hh hm (by simpa using hno) hu hs hv
      exact Gives.of h1 h2
    · rename_i m e hu
      split at hc0 <;> first | simp at hc0; done | skip
      rename_i n hs
      split at hc0 <;> first | simp at hc0; done | skip
      rename_i hmu
      simp only [Option.some.injEq] at hc0; subst hc0
      obtain ⟨v', h1, h2⟩ := P_slArr (w := w) hT hx hl hh hm (by simpa using hno) hu hs hmu hv
      exact Gives.of h1 h2
  case fieldAddr ty x f =>
    have hx := ok x (by simp [Op.operands])
    simp only at hc0
    split at hc0 <;> first | simp at hc0; done | skip
    rename_i fields hu
    split at hc0 <;> first | simp at hc0; done | skip
    rename_i fd hf
    split at hc0 <;> first | simp at hc0; done | skip
    rename_i n hs
    simp only [Option.some.injEq] at hc0; subst hc0
    obtain ⟨v', h1, h2⟩ := P_fieldAddr (w := w) hT hx hu hf hs hv
    exact Gives.of h1 h2
  case field ty x f =>
    have hx := ok x (by simp [Op.operands])
    simp only at hc0
    split at hc0 <;> first | simp at hc0; done | skip
    rename_i fields hu
    split at hc0 <;> first | simp at hc0; done | skip
    rename_i fd hf
    split at hc0 <;> first | simp at hc0; done | skip
    rename_i n g hs
    simp only [Option.some.injEq] at hc0; subst hc0
    obtain ⟨v', h1, h2⟩ := P_field (w := w) hT hx hu hf hs hv
    exact Gives.of h1 h2
  case indexAddr ty x ix =>
    have hx := ok x (by simp [Op.operands])
    have hi := ok ix (by simp [Op.operands])
    simp only at hc0
    split at hc0 <;> first | simp at hc0; done | skip
    · rename_i len e hu
      split at hc0 <;> first | simp at hc0; done | skip
      rename_i n hs
      simp only [Option.some.injEq] at hc0; subst hc0
      obtain ⟨v', h1, h2⟩ := P_adArr (w := w) hT hx hi hu hs hv
      exact Gives.of h1 h2
    · rename_i e hu
      split at hc0 <;> first | simp at hc0; done | skip
      rename_i n hs
      simp only [Option.some.injEq] at hc0; subst hc0
      obtain ⟨v', h1, h2⟩ := P_adSl (w := w) hT hx hi hu hs hv
      exact Gives.of h1 h2
  case index ty x ix =>
    have hx := ok x (by simp [Op.operands])
    have hi := ok ix (by simp [Op.operands])
    simp only at hc0
    split at hc0 <;> first | simp at hc0; done | skip
    · rename_i len e hu
      split at hc0 <;> first | simp at hc0; done | skip
      rename_i n g hs
      simp only [Option.some.injEq] at hc0; subst hc0
      obtain ⟨v', h1, h2⟩ := P_index (w := w) hT hx hi hu hs hv
      exact Gives.of h1 h2
    · rename_i hu
      simp only [Option.some.injEq] at hc0; subst hc0
      have := P_indexStr (P := P) (w := w) hT hx hi hu hv
      exact Gives.of this.1 this.2
  case extract x i =>
    simp only [Option.some.injEq] at hc0; subst hc0
    obtain ⟨v', h1, h2⟩ := P_extract (P := P) (w := w) hT (ok x (by simp [Op.operands])) hv
    exact Gives.of h1 h2
  case build ty parts =>
    have hok : parts.toList.all (fun p => okOpd p.2) = true := by
      simp only [List.all_eq_true]
      exact fun p hp => ok p.2 (by simp only [Op.operands, List.mem_toArray]; simpa using ⟨p.1, by simpa using hp⟩)
    simp only at hc0
    split at hc0 <;> first | simp at hc0; done | skip
    · rename_i z fields hz hu
      split at hc0 <;> first | simp at hc0; done | skip
      rename_i pl hp
      split at hc0 <;> first | simp at hc0; done | skip
      rename_i ps hq
      simp only [Option.some.injEq] at hc0; subst hc0
      obtain ⟨v', h1, h2⟩ := P_build (w := w) hT hok hz (by simpa [closedAll] using hcl) (.inl ⟨_, _, hu, hp, hq⟩) hv
      exact Gives.of h1 h2
    · rename_i z len e hz hu
      split at hc0 <;> first | simp at hc0; done | skip
      rename_i n hs
      split at hc0 <;> first | simp at hc0; done | skip
      rename_i ps hq
      simp only [Option.some.injEq] at hc0; subst hc0
      obtain ⟨v', h1, h2⟩ := P_build (w := w) hT hok hz (by simpa [closedAll] using hcl) (.inr ⟨_, _, _, hu, hs, hq⟩) hv
      exact Gives.of h1 h2
  case typeAssert x xt u okb =>
    have hx := ok x (by simp [Op.operands])
    simp only at hc0
    split at hc0 <;> first | simp at hc0; done | skip
    rename_i d z hni hu hz
    split at hc0 <;> first | simp at hc0; done | skip
    rename_i hcz
    simp only [Option.some.injEq] at hc0; subst hc0
    obtain ⟨v', h1, h2⟩ := P_assertT (w := w) (xt := xt) hT hx hu (fun ms e => hni ms (by rw [e])) hz hcz hv
    exact Gives.of h1 h2
  case makeMap ty r => cases r <;> simp at hc0; subst hc0; simp [cls] at hk
  case call c =>
    simp only [cCall] at hc0
    split at hc0
    · simp only [Option.some.injEq] at hc0; subst hc0; simp [cls] at hk
    · simp only [Option.some.injEq] at hc0; subst hc0; simp [cls] at hk
    rename_i b hb
    have ha := hlen c rfl
    have arr : ∀ {α : Type} {xs : Array α} {l : List α}, xs.toList = l → xs = ⟨l⟩ := fun h => by rw [← h]
    split at hc0
    · rename_i ty x hty hax
      have e1 := arr hty
      have e2 := arr hax
      have hx := ha x (by rw [hax]; simp)
      refine P_call hb (s := Builtin.len_ c.argTypes type (c.args.map a.eval)) rfl ?_
      rw [e1, e2]
      have lens : ∀ str, (if str then P.underlying ty = some .string else ∃ e, P.underlying ty = some (.slice e)) → k' = .len str x → Gives P ρ w v (do pure (.value (← Builtin.len_ #[ty] type (Array.map a.eval #[x])))) := by
        intro str hu hk'
        subst hk'
        simp only [evP] at hv
        split at hv <;> first | (simp at hv; done) | skip
        rename_i u hu'
        have vx := eval_sound hT hx hu'
        refine Gives.of (v' := v) ?_ ?_
        · simp only [List.map_toArray, List.map_cons, List.map_nil]
          generalize a.eval x = x' at vx
          cases str with
          | true =>
            cases u <;> simp only [lenV] at hv <;> first | (simp at hv; done) | skip
            simp only [Option.some.injEq] at hv; subst hv
            cases vx
            simp only [if_true] at hu
            simp [Builtin.len_, run_under hu, goInt]
          | false =>
            cases u <;> simp only [lenV] at hv <;> first | (simp at hv; done) | skip
            simp only [Option.some.injEq] at hv; subst hv
            simp only [Bool.false_eq_true, if_false] at hu
            obtain ⟨e, hu⟩ := hu
            cases vx <;> simp [Builtin.len_, run_under hu, goInt]
        · cases str <;> cases u <;> simp only [lenV] at hv <;> first | (simp at hv; done) | (simp only [Option.some.injEq] at hv; subst hv; exact .int _ _)
      split at hc0 <;> first | (simp at hc0; done) | skip
      · rename_i hu; simp only [Option.some.injEq] at hc0; exact lens true hu hc0.symm
      · rename_i e hu; simp only [Option.some.injEq] at hc0; exact lens false ⟨e, hu⟩ hc0.symm
      · rename_i n e hu
        simp only [Option.some.injEq] at hc0; subst hc0
        simp only [evP, Option.some.injEq] at hv; subst hv
        exact Gives.of (v' := goInt n) (by simp [Builtin.len_, run_under hu]) (.int _ _)
      · simp only [Option.some.injEq] at hc0; subst hc0; simp [cls] at hk
    · rename_i ty x hty hax
      have e1 := arr hty
      have e2 := arr hax
      have hx := ha x (by rw [hax]; simp)
      refine P_call hb (s := Builtin.cap_ c.argTypes type (c.args.map a.eval)) rfl ?_
      rw [e1, e2]
      split at hc0 <;> first | (simp at hc0; done) | skip
      rename_i e hu
      simp only [Option.some.injEq] at hc0; subst hc0
      simp only [evP] at hv
      split at hv <;> first | (simp at hv; done) | skip
      rename_i b n cc hu'
      have vx := eval_sound hT hx hu'
      split at hv <;> first | (simp at hv; done) | skip
      rename_i hlt
      simp only [Option.some.injEq] at hv; subst hv
      refine Gives.of (v' := goInt cc) ?_ (.int _ _)
      simp only [List.map_toArray, List.map_cons, List.map_nil]
      generalize a.eval x = x' at vx
      cases vx with
      | sliceN => simp [Builtin.cap_, run_under hu]
      | slice => simp [Builtin.cap_, run_under hu]
      | sliceU => exfalso; omega
      | sliceE => exact absurd hlt (by decide)
    · (repeat' (split at hc0)) <;> first | (simp at hc0; done) | (simp only [Option.some.injEq] at hc0; subst hc0; simp [cls] at hk; done)
    · (repeat' (split at hc0)) <;> first | (simp at hc0; done) | (simp only [Option.some.injEq] at hc0; subst hc0; simp [cls] at hk; done)
    · (repeat' (split at hc0)) <;> first | (simp at hc0; done) | (simp only [Option.some.injEq] at hc0; subst hc0; simp [cls] at hk; done)
    · (repeat' (split at hc0)) <;> first | (simp at hc0; done) | (simp only [Option.some.injEq] at hc0; subst hc0; simp [cls] at hk; done)
    · simp only [Option.some.injEq] at hc0; subst hc0; simp [cls] at hk
    · rename_i x y hax
      have e2 := arr hax
      have hx := ha x (by rw [hax]; simp)
      have hy := ha y (by rw [hax]; simp)
      refine P_call hb (s := Builtin.min_ c.argTypes type (c.args.map a.eval)) rfl ?_
      rw [e2]
      simp only [Option.some.injEq] at hc0; subst hc0
      simp only [evP] at hv
      split at hv <;> first | (simp at hv; done) | skip
      rename_i u u2 hu hu2
      have vx := eval_sound hT hx hu
      have vy := eval_sound hT hy hu2
      cases u <;> cases u2 <;> simp only [mmV] at hv <;> first | (simp at hv; done) | skip
      split at hv <;> first | (simp at hv; done) | skip
      rename_i hkk
      subst hkk
      simp only [Option.some.injEq, Bool.false_eq_true, if_false] at hv; subst hv
      refine Gives.of ?_ (.int _ _)
      simp only [List.map_toArray, List.map_cons, List.map_nil]
      generalize a.eval x = x' at vx
      generalize a.eval y = y' at vy
      cases vx; cases vy
      simp [Builtin.min_, Builtin.min2]
    · rename_i x y hax
      have e2 := arr hax
      have hx := ha x (by rw [hax]; simp)
      have hy := ha y (by rw [hax]; simp)
      refine P_call hb (s := Builtin.max_ c.argTypes type (c.args.map a.eval)) rfl ?_
      rw [e2]
      simp only [Option.some.injEq] at hc0; subst hc0
      simp only [evP] at hv
      split at hv <;> first | (simp at hv; done) | skip
      rename_i u u2 hu hu2
      have vx := eval_sound hT hx hu
      have vy := eval_sound hT hy hu2
      cases u <;> cases u2 <;> simp only [mmV] at hv <;> first | (simp at hv; done) | skip
      split at hv <;> first | (simp at hv; done) | skip
      rename_i hkk
      subst hkk
      simp only [Option.some.injEq, if_true] at hv; subst hv
      refine Gives.of ?_ (.int _ _)
      simp only [List.map_toArray, List.map_cons, List.map_nil]
      generalize a.eval x = x' at vx
      generalize a.eval y = y' at vy
      cases vx; cases vy
      simp [Builtin.max_, Builtin.max2]
    · simp at hc0
  all_goals
    (try simp only at hc0)
    (repeat' (split at hc0)) <;> first
      | (simp at hc0; done)
      | (simp only [Option.some.injEq] at hc0; subst hc0; simp [cls] at hk; done)
end
end Ev

/- Soundness of the operations that read memory. -/
namespace Ev
open Go

section
variable {P : Program} {ρ : Rho} {s : S} {w : World} {t : List Value} {a : Act}

theorem cells_of (hR : Rel P ρ s w) {b b' r : Nat} {c : List Value} {ty : TypeId} {lo hi : Nat} (hb : ρ b = some (b', r)) (hg : s.h.get b = some (.cells c ty lo hi)) :
    ∃ c' f, w.heap[b']? = some (.cells c' ty f) ∧ r = c'.size ∧ c.length ≤ c'.size ∧ (∀ i v, nth c i = some v → ∃ v', c'[i]? = some v' ∧ VR ρ v v') ∧
      (∀ i, f.1 ≤ i → i < f.2 → i < c'.size → lo ≤ i ∧ i < hi) := by
  obtain ⟨o', h1, h2⟩ := hR.obj _ _ _ _ hg hb
  cases h2 with
  | cells hr hl hv hf => exact ⟨_, _, h1, hr, hl, hv, hf⟩

theorem cell_of {b' : Nat} {c' : Array Value} {ty : TypeId} {f : Nat × Nat} (h : w.heap[b']? = some (.cells c' ty f)) (o : Nat) : w.cell? ⟨b', o, none⟩ = c'[o]? := by
  simp [World.cell?, h]

theorem load_run {ad : Addr} {v : Value} (h : w.cell? ad = some v) : (load ad).run P w = .ok v w := by simp [h]

theorem loadCells_run {b' o : Nat} {c' : Array Value} {ty : TypeId} {f : Nat × Nat} (h : w.heap[b']? = some (.cells c' ty f)) :
    ∀ (n i : Nat) (acc : Array Value), o + i + n ≤ c'.size → (loadCellsFrom ⟨b', o, none⟩ i n acc).run P w = .ok (acc ++ c'.extract (o + i) (o + i + n)) w := by
  intro n
  induction n with
  | zero => intro i acc hn; simp [loadCellsFrom]; omega
  | succ n ih =>
    intro i acc hn
    have hlt : o + i < c'.size := by omega
    simp only [loadCellsFrom, add_eq]
    rw [run_bind_ok (load_run (by rw [cell_of h]; exact Array.getElem?_eq_getElem hlt)), ih (i + 1) _ (by omega)]
    congr 1
    rw [← Array.toList_inj]
    simp only [Array.toList_append, Array.toList_push, Array.toList_extract, List.extract_eq_take_drop, List.append_assoc]
    congr 1
    rw [show o + i + (n + 1) - (o + i) = n + 1 from by omega, show o + (i + 1) + n - (o + (i + 1)) = n from by omega]
    rw [List.drop_eq_getElem_cons (i := o + i) (l := c'.toList) (by simpa using hlt)]
    simp [Nat.add_assoc]

theorem loadV_sound (hR : Rel P ρ s w) {ty : TypeId} {n : Nat} {g : Bool} {x x' v : Value} (hs : shapeT P ty = some (n, g)) (hx : VR ρ x x') (h : loadV s.h n g x = some v) :
    ∃ ad v', x' = .pointer (some ad) ∧ (loadVar ty ad).run P w = .ok v' w ∧ VR ρ v v' := by
  unfold loadV at h
  split at h <;> first | (simp at h; done) | skip
  split at h <;> first | (simp at h; done) | skip
  rename_i c ty0 lo hi hg
  cases hx with
  | @ptr b o b' r sp hb =>
    obtain ⟨c', f, h1, _, _, hv, _⟩ := cells_of hR hb hg
    obtain ⟨ha, hz, hone⟩ := shapeT_some hs
    refine ⟨⟨b', o, none⟩, ?_⟩
    unfold loadVar
    cases g with
    | true =>
      simp only [partV] at h
      split at h <;> first | (simp at h; done) | skip
      rename_i m hm
      simp only [Option.some.injEq] at h; subst h
      refine ⟨.agg (c'.extract o (o + n)), rfl, ?_, .agg ?_⟩
      · rw [run_bind_ok (run_isAgg ha)]
        simp only [if_true]
        rw [run_bind_ok (run_size hz)]
        rcases cut_rel hv _ _ _ hm with ⟨h2, _⟩ | ⟨rfl, _⟩
        · unfold loadCells
          have := loadCells_run (P := P) h1 n 0 #[] (by omega)
          rw [run_bind_ok this]
          simp
        · simp [loadCells, loadCellsFrom]; omega
      · rcases cut_rel hv _ _ _ hm with ⟨_, h2⟩ | ⟨rfl, rfl⟩
        · exact h2
        · simp; exact .nil
    | false =>
      simp only [partV] at h
      obtain ⟨v', h2, h3⟩ := hv _ _ h
      refine ⟨v', rfl, ?_, h3⟩
      rw [run_bind_ok (run_isAgg ha)]
      simp only [Bool.false_eq_true, if_false]
      exact load_run (by rw [cell_of h1]; exact h2)

/-! maps -/
theorem keyEq_now {kk : KK} {d : TypeDesc} {x x' y y' : Value} {b : Bool} (hd : kk = .int ∧ (∃ k, d = .int k) ∨ kk = .str ∧ d = .string) (hx : VR ρ x x') (hy : VR ρ y y') (h : keyEq kk x y = some b) :
    Instr.sameNow d x' y' = some b := by
  rcases hd with ⟨rfl, k, rfl⟩ | ⟨rfl, rfl⟩ <;> cases x <;> cases y <;> simp only [keyEq] at h <;> first | (simp at h; done) | skip
  · cases hx; cases hy; exact h
  · cases hx; cases hy; exact h

theorem find_now {kk : KK} {d : TypeDesc} {x x' : Value} (hd : kk = .int ∧ (∃ k, d = .int k) ∨ kk = .str ∧ d = .string) (hx : VR ρ x x') :
    ∀ {es es' : List MapEntry} {i : Nat} {r : Option (Nat × MapEntry)}, L2 (ER ρ) es es' → find kk x es i = some r →
      match r with
      | none => Instr.findNow d x' es' i = some none
      | some (j, e) => ∃ e', Instr.findNow d x' es' i = some (some (j, e'.val)) ∧ ER ρ e e' ∧ i ≤ j ∧ nth es (j - i) = some e ∧ es'[j - i]? = some e' ∧ keyEq kk x e.key = some true := by
  intro es es' i r hl
  induction hl generalizing i r with
  | nil => intro h; simp only [find, Option.some.injEq] at h; subst h; rfl
  | @cons e e' es es' he _ ih =>
    intro h
    simp only [find] at h
    split at h
    · rename_i hk
      simp only [Option.some.injEq] at h; subst h
      refine ⟨e', ?_, he, Nat.le_refl _, by simp [nth], by simp, hk⟩
      simp only [Instr.findNow, keyEq_now hd hx he.1 hk]
    · rename_i hk
      have := ih h
      cases r with
      | none =>
        simp only at this ⊢
        simp only [Instr.findNow, keyEq_now hd hx he.1 hk]
        exact this
      | some je =>
        obtain ⟨j, e0⟩ := je
        obtain ⟨e0', h1, h2, h3, h4, h5, h6⟩ := this
        refine ⟨e0', ?_, h2, by omega, ?_, ?_, h6⟩
        · simp only [Instr.findNow, keyEq_now hd hx he.1 hk]; exact h1
        · rw [show j - i = (j - (i + 1)) + 1 from by omega]; exact h4
        · rw [show j - i = (j - (i + 1)) + 1 from by omega]; simpa using h5
    · simp at h

theorem cKey_desc {kt : TypeId} {kk : KK} (h : cKey P kt = some kk) : ∃ d, P.underlying kt = some d ∧ (kk = .int ∧ (∃ k, d = .int k) ∨ kk = .str ∧ d = .string) := by
  unfold cKey at h
  split at h <;> simp at h <;> subst h
  · exact ⟨_, ‹_›, .inl ⟨rfl, _, rfl⟩⟩
  · exact ⟨_, ‹_›, .inr ⟨rfl, rfl⟩⟩

theorem checkKey_run {kt : TypeId} {d : TypeDesc} {b : Bool} {n : Nat} (hu : P.underlying kt = some d) (hd : (∃ k, d = .int k) ∨ d = .string) (x : Value) :
    (Instr.checkKey b (n + 1) kt x).run P w = .ok () w := by
  simp only [Instr.checkKey]
  rw [run_bind_ok (run_under hu)]
  rcases hd with ⟨k, rfl⟩ | rfl <;> cases x <;> rfl

theorem findKey_run {kt : TypeId} {kk : KK} {x x' : Value} {es es' : List MapEntry} {r : Option (Nat × MapEntry)} (hc : cKey P kt = some kk) (hx : VR ρ x x') (hl : L2 (ER ρ) es es')
    (h : find kk x es 0 = some r) :
    match r with
    | none => (Instr.findKey kt x' es').run P w = .ok none w
    | some (j, e) => ∃ e', (Instr.findKey kt x' es').run P w = .ok (some (j, e'.val)) w ∧ ER ρ e e' ∧ nth es j = some e ∧ es'[j]? = some e' ∧ keyEq kk x e.key = some true := by
  obtain ⟨d, hu, hd⟩ := cKey_desc hc
  have := find_now hd hx hl h
  cases r with
  | none =>
    simp only at this ⊢
    simp only [Instr.findKey]
    rw [run_bind_ok (run_under hu)]
    simp only [this]
    rfl
  | some je =>
    obtain ⟨j, e⟩ := je
    obtain ⟨e', h1, h2, _, h3, h4, h5⟩ := this
    refine ⟨e', ?_, h2, by simpa using h3, by simpa using h4, h5⟩
    simp only [Instr.findKey]
    rw [run_bind_ok (run_under hu)]
    simp only [h1]
    rfl

theorem map_of (hR : Rel P ρ s w) {b b' r : Nat} {es : List MapEntry} {clock : Nat} (hb : ρ b = some (b', r)) (hg : s.h.get b = some (.map es clock)) :
    ∃ es', w.heap[b']? = some (.map es' clock) ∧ L2 (ER ρ) es es'.toList := by
  obtain ⟨o', h1, h2⟩ := hR.obj _ _ _ _ hg hb
  cases h2 with
  | map h => exact ⟨_, h1, h⟩

theorem getObj_run {r : Nat} {o : Obj} (h : w.heap[r]? = some o) (hc : ∀ c t f, o ≠ .cells c t f) : (getObj r).run P w = .ok o w := by
  simp only [getObj, Sem.run, h]

theorem R_lookup (hR : Rel P ρ s w) {ty key el : TypeId} {kk : KK} {z m m' x x' v : Value} {ok : Bool} (hu : P.underlying ty = some (.map key el)) (hk : cKey P key = some kk)
    (hz : zeroT P el = some z) (hcl : closed z = true) (hm : VR ρ m m') (hx : VR ρ x x') (h : lookupV s.h kk z ok m x = some v) :
    ∃ v', (Instr.lookup ty m' x' ok).run P w = .ok v' w ∧ VR ρ v v' := by
  obtain ⟨d, hd, hd'⟩ := cKey_desc hk
  have hck : ∀ b, (Instr.checkKey b 10000 key x').run P w = .ok () w := fun b => checkKey_run hd (hd'.elim (fun h => .inl h.2) (fun h => .inr h.2)) x'
  have hzz : VR ρ z z := closed_VR hcl
  have fin : ∀ (v v' : Value) (b : Bool), VR ρ v v' → VR ρ (if ok then .tuple #[v, .bool b] else v) (if ok then .tuple #[v', .bool b] else v') := by
    intro v v' b hv
    cases ok
    · exact hv
    · exact .tuple (.cons hv (.cons (.bool _) .nil))
  simp only [lookupV] at h
  split at h <;> first | (simp at h; done) | skip
  · split at h <;> first | (simp at h; done) | skip
    rename_i r b hf hb
    simp only [find, Option.some.injEq] at hf
    subst hf
    simp only [Option.some.injEq] at h; subst h
    cases hm
    refine ⟨_, ?_, fin z z false hzz⟩
    simp only [Instr.lookup]
    rw [run_bind_ok (run_under hu)]
    simp only []
    rw [run_bind_ok (run_pure _), run_bind_ok (hck _)]
    have := findKey_run (w := w) hk hx (L2.nil (R := ER ρ)) (r := none) (by simp [find])
    rw [run_bind_ok this]
    simp [run_zero hz]
  · split at h <;> first | (simp at h; done) | skip
    rename_i r es clock hg
    cases hm with
    | @map _ m0 r0 hb =>
      obtain ⟨es', h1, h2⟩ := map_of hR hb hg
      have hgo := getObj_run (P := P) h1 (by simp)
      split at h <;> first | (simp at h; done) | skip
      · rename_i i e b hf hbb
        simp only [Option.some.injEq] at h; subst h
        obtain ⟨e', h3, h4, _⟩ := findKey_run (w := w) hk hx h2 hf
        refine ⟨_, ?_, fin e.val e'.val true h4.2.1⟩
        simp only [Instr.lookup]
        rw [run_bind_ok (run_under hu)]
        simp [hgo, hck, h3]
      · rename_i b hf hbb
        simp only [Option.some.injEq] at h; subst h
        have h3 := findKey_run (w := w) hk hx h2 hf
        refine ⟨_, ?_, fin z z false hzz⟩
        simp only [Instr.lookup]
        rw [run_bind_ok (run_under hu)]
        simp [hgo, hck, h3, run_zero hz]

theorem L2.length {α β : Type} {R : α → β → Prop} {l : List α} {m : List β} (h : L2 R l m) : l.length = m.length := by
  induction h with
  | nil => rfl
  | cons _ _ ih => simp [ih]

theorem bytes_run : ∀ {l : List Value} {l' : List Value} {bs : List UInt8} {acc : ByteArray}, bytesOfCells l = some bs → VRL ρ l l' →
    (forIn (m := Sem) l' acc fun c s => do
      let .int .u8 n := c | stuck "bytesToString: byte expected"
      pure (ForInStep.yield (s.push (UInt8.ofNat n.toNat)))).run P w = .ok ⟨(acc.data.toList ++ bs).toArray⟩ w := by
  intro l
  induction l with
  | nil => intro l' bs acc h hl; cases hl; simp only [bytesOfCells, Option.some.injEq] at h; subst h; simp
  | cons v l ih =>
    intro l' bs acc h hl
    cases hl with
    | cons hv ht =>
      cases v <;> (try simp only [bytesOfCells] at h) <;> first | (simp at h; done) | skip
      rename_i k n
      cases k <;> (try simp only [bytesOfCells] at h) <;> first | (simp at h; done) | skip
      split at h <;> first | (simp at h; done) | skip
      rename_i bs' hbs
      simp only [Option.some.injEq] at h; subst h
      cases hv
      simp only [List.forIn_cons]
      have := ih (acc := acc.push (UInt8.ofNat n.toNat)) hbs ht
      rw [run_bind_ok (a := ForInStep.yield (acc.push (UInt8.ofNat n.toNat))) (w' := w) rfl]
      refine this.trans ?_
      congr 1
      simp [ByteArray.push]

theorem first_run (hR : Rel P ρ s w) {size n : Nat} {x x' : Value} {l : List Value} (hx : VR ρ x x') (h : firstV s.h size n x = some l)
    (hn : ∀ a m c, x = .slice a m c → n ≤ m) (hs : ∀ b, x = .string b → n ≤ b.size) :
    ∃ l', (Builtin.firstCells size n x').run P w = .ok l' w ∧ VRL ρ l l'.toList := by
  unfold firstV at h
  split at h <;> first | (simp at h; done) | skip
  · split at h <;> first | (simp at h; done) | skip
    rename_i ad m0 c0 _ c ty lo hi hg
    have key : ∀ b o b' r sp c1, ad = ⟨b, o, sp⟩ → ρ b = some (b', r) → x' = .slice (some ⟨b', o, none⟩) m0 c1 →
        ∃ l', (Builtin.firstCells size n x').run P w = .ok l' w ∧ VRL ρ l l'.toList := by
      intro b o b' r sp c1 e1 hb e2
      subst e1; subst e2
      obtain ⟨c', f, h1, _, _, hv, _⟩ := cells_of hR hb hg
      refine ⟨c'.extract o (o + n * size), ?_, ?_⟩
      · simp only [Builtin.firstCells, loadCells]
        rcases cut_rel hv _ _ _ h with ⟨h2, _⟩ | ⟨h0, _⟩
        · have := loadCells_run (P := P) h1 (n * size) 0 #[] (by omega)
          rw [this]; simp
        · rw [h0]; simp [loadCellsFrom]; omega
      · rcases cut_rel hv _ _ _ h with ⟨_, h2⟩ | ⟨h0, rfl⟩
        · exact h2
        · rw [h0]; simp; exact .nil
    cases hx with
    | slice hb _ => exact key _ _ _ _ _ _ rfl hb rfl
    | sliceU hb _ _ _ => exact key _ _ _ _ _ _ rfl hb rfl
  · split at h <;> first | (simp at h; done) | skip
    rename_i m c h0
    simp only [Option.some.injEq] at h; subst h; subst h0
    cases hx with
    | sliceN => exact ⟨#[], rfl, .nil⟩
    | sliceE a' c' =>
      cases a' with
      | none => exact ⟨#[], rfl, .nil⟩
      | some a' => refine ⟨#[], ?_, .nil⟩; simp [Builtin.firstCells, loadCells, loadCellsFrom]
  · split at h <;> first | (simp at h; done) | skip
    rename_i b hc
    simp only [Option.some.injEq] at h; subst h
    cases hx
    refine ⟨_, rfl, ?_⟩
    have : ((b.extract 0 n).data.map fun b => Value.int .u8 b.toNat).toList = (b.data.toList.take n).map fun b => Value.int .u8 b.toNat := by
      simp [ByteArray.extract, ByteArray.copySlice]
    rw [this]
    generalize b.data.toList.take n = l
    induction l with
    | nil => exact .nil
    | cons a l ih => exact .cons (.int _ _) ih
end
end Ev

/- Soundness of the operations that read memory, together. -/
namespace Ev
open Go

section
variable {P : Program} {ρ : Rho} {s : S} {w : World} {t : List Value} {a : Act}

theorem find_born {es es' : List MapEntry} (h : L2 (ER ρ) es es') {b : Nat} {e : MapEntry} (hf : es.find? (·.born == b) = some e) :
    ∃ e', es'.find? (·.born == b) = some e' ∧ ER ρ e e' := by
  induction h with
  | nil => simp at hf
  | @cons x y l m hxy _ ih =>
    simp only [List.find?_cons] at hf ⊢
    rw [hxy.2.2]
    cases hb : (x.born == b) with
    | true => simp only [hb] at hf ⊢; simp only [Option.some.injEq] at hf; subst hf; exact ⟨y, rfl, hxy⟩
    | false => simp only [hb] at hf ⊢; exact ih hf

theorem iter_of (hR : Rel P ρ s w) {b b' r : Nat} {m : Option Id} {since last : Nat} {seen : List Nat} (hb : ρ b = some (b', r)) (hg : s.h.get b = some (.mapIter m since seen last)) :
    ∃ m', w.heap[b']? = some (.mapIter m' since seen.toArray last) ∧ (m = none → m' = none) ∧ (∀ x, m = some x → ∃ x' y, m' = some x' ∧ ρ x = some (x', y)) := by
  obtain ⟨o', h1, h2⟩ := hR.obj _ _ _ _ hg hb
  cases h2 with
  | mapIterN => exact ⟨none, h1, (fun _ => rfl), (fun x h => by cases h)⟩
  | mapIter hm => exact ⟨_, h1, (fun h => by cases h), (fun x h => by cases h; exact ⟨_, _, rfl, hm⟩)⟩

theorem toStr_run {x' : Value} {l : List Value} {bs : List UInt8} {ad : Addr} {n c : Nat} {l' : Array Value} (hx : x' = .slice (some ad) n c) (h1 : (Builtin.firstCells 1 n x').run P w = .ok l' w)
    (h2 : VRL ρ l l'.toList) (hb : bytesOfCells l = some bs) : (Conv.bytesToString x').run P w = .ok (.string ⟨bs.toArray⟩) w := by
  subst hx
  simp only [Builtin.firstCells, Nat.mul_one] at h1
  simp only [Conv.bytesToString]
  rw [run_bind_ok h1]
  simp only [← Array.forIn_toList]
  have hb' := bytes_run (P := P) (w := w) (acc := ByteArray.empty) hb h2
  refine (run_bind_ok (a := ⟨bs.toArray⟩) (w' := w) ?_).trans rfl
  exact hb'

theorem R_sound {o : Oper} {k : MK} {v : Value} (hR : Rel P ρ s w) (hT : VRL ρ t a.tmps.toList) (hc : cOp P o = some k) (hk : cls k = .r) (hv : evR k t s.h = some v) :
    Gives P ρ w v (execOp a.eval o) := by
  unfold cOp at hc
  split at hc <;> first | simp at hc; done | skip
  rename_i hok
  split at hc <;> first | simp at hc; done | skip
  rename_i k' hc0
  split at hc <;> first | simp at hc; done | skip
  rename_i hcl
  simp only [Option.some.injEq] at hc; subst hc
  have ok : ∀ x, x ∈ o.op.operands.toList → okOpd x = true := fun x hx => okOpd_of hok hx
  clear hok
  obtain ⟨dst, op, type, pos, after, guard⟩ := o
  simp only at ok
  unfold cOp0 at hc0
  have hlen : ∀ (c : Call), op = .call c → ∀ x, x ∈ c.args.toList → okOpd x = true := by
    intro c e x hx
    subst e
    exact ok x (by simp only [Op.operands, Call.operands]; cases c.callee <;> simp [hx])
  cases op <;> try (simp at hc0; done)
  case load ty x =>
    simp only at hc0
    split at hc0 <;> first | simp at hc0; done | skip
    rename_i n g hs
    simp only [Option.some.injEq] at hc0; subst hc0
    simp only [evR] at hv
    split at hv <;> first | (simp at hv; done) | skip
    rename_i u hu
    have vx := eval_sound hT (ok x (by simp [Op.operands])) hu
    obtain ⟨ad, v', h1, h2, h3⟩ := loadV_sound hR hs vx hv
    refine Gives.of (v' := v') ?_ h3
    simp only [Instr.loadAt, h1, Instr.sureAddr]
    rw [run_bind_ok (run_pure _)]
    exact h2
  case lookup ty m x okb =>
    simp only at hc0
    split at hc0 <;> first | simp at hc0; done | skip
    rename_i key el hu
    split at hc0 <;> first | simp at hc0; done | skip
    rename_i kk z hkk hz
    split at hc0 <;> first | simp at hc0; done | skip
    rename_i hcz
    simp only [Option.some.injEq] at hc0; subst hc0
    simp only [evR] at hv
    split at hv <;> first | (simp at hv; done) | skip
    rename_i u u2 hu1 hu2
    obtain ⟨v', h1, h2⟩ := R_lookup hR hu hkk hz hcz (eval_sound hT (ok m (by simp [Op.operands])) hu1) (eval_sound hT (ok x (by simp [Op.operands])) hu2) hv
    exact Gives.of h1 h2
  case entry it =>
    simp only [Option.some.injEq] at hc0; subst hc0
    simp only [evR] at hv
    split at hv <;> first | (simp at hv; done) | skip
    rename_i r sp hu
    split at hv <;> first | (simp at hv; done) | skip
    rename_i m since seen last hg
    split at hv <;> first | (simp at hv; done) | skip
    rename_i es clock stamp hgm hlast
    split at hv <;> first | (simp at hv; done) | skip
    rename_i hcl2
    split at hv <;> first | (simp at hv; done) | skip
    rename_i e he
    simp only [Option.some.injEq] at hv; subst hv
    have vx := eval_sound hT (ok it (by simp [Op.operands])) hu
    cases hxx : a.eval it <;> rw [hxx] at vx <;> cases vx
    rename_i b' rr hb
    obtain ⟨m', h1, _, h3⟩ := iter_of hR hb hg
    obtain ⟨x', y, rfl, hm⟩ := h3 m rfl
    obtain ⟨es', h4, h5⟩ := map_of hR hm hgm
    obtain ⟨e', h6, h7⟩ := find_born h5 he
    refine Gives.of (v' := .tuple #[e'.key, e'.val]) ?_ (.tuple (.cons h7.1 (.cons h7.2.1 .nil)))
    rw [hxx]
    simp only [Instr.entry]
    rw [run_bind_ok (getObj_run h1 (by simp))]
    simp only []
    have hb : seen.toArray.back? = some stamp := by rw [← hlast]; simp [Array.back?_eq_getElem?, List.getLast?_eq_getElem?]
    simp only [hb]
    rw [run_bind_ok (getObj_run h4 (by simp))]
    subst hcl2
    have h6' : Array.find? (fun x => x.born == stamp) es' = some e' := by rw [← h6, Array.find?_toList]
    simp [h6']
  case convert src dst' x =>
    have hx := ok x (by simp [Op.operands])
    simp only at hc0
    split at hc0
    · simp only [Option.some.injEq] at hc0; subst hc0; simp [cls] at hk
    · simp only [Option.some.injEq] at hc0; subst hc0; simp [cls] at hk
    · simp only [Option.some.injEq] at hc0; subst hc0; simp [cls] at hk
    · rename_i e hs hd
      split at hc0 <;> first | (simp at hc0; done) | skip
      rename_i he
      simp only [Option.some.injEq] at hc0; subst hc0
      have fin : ∀ r b n c, a.eval x = .slice b n c → (Conv.bytesToString (.slice b n c)).run P w = .ok r w → (convert src dst' (a.eval x)).run P w = .ok r w := by
        intro r b n c e1 e2
        rw [e1]
        simp only [convert]
        rw [run_bind_ok (run_under hs), run_bind_ok (run_under hd)]
        simp only []
        rw [run_bind_ok (run_under he)]
        exact e2
      simp only [evR] at hv
      split at hv <;> first | (simp at hv; done) | skip
      · rename_i n c hu
        simp only [Option.some.injEq] at hv; subst hv
        have vx := eval_sound hT hx hu
        refine Gives.of (v' := .string .empty) ?_ (.string _)
        cases hxx : a.eval x <;> rw [hxx] at vx <;> cases vx
        · rw [← hxx]; exact fin _ _ _ _ hxx rfl
        · rw [← hxx]
          have emp0 : ∀ (a0 : Option Addr) (c : Nat), (Conv.bytesToString (.slice a0 0 c)).run P w = .ok (.string .empty) w := by
            intro a0 c
            cases a0 with
            | none => rfl
            | some a0 => simp [Conv.bytesToString, loadCells, loadCellsFrom]
          exact fin _ _ _ _ hxx (emp0 _ _)
      · rename_i ad n c hu
        split at hv <;> first | (simp at hv; done) | skip
        rename_i l hl
        split at hv <;> first | (simp at hv; done) | skip
        rename_i bs hbs
        simp only [Option.some.injEq] at hv; subst hv
        have vx := eval_sound hT hx hu
        obtain ⟨l', h1, h2⟩ := first_run hR vx hl (fun a m c e => by cases e; exact Nat.le_refl _) (fun b e => by cases e)
        refine Gives.of (v' := .string ⟨bs.toArray⟩) ?_ (.string _)
        cases hxx : a.eval x <;> rw [hxx] at vx h1 <;> cases vx
        · rw [← hxx]; exact fin _ _ _ _ hxx (toStr_run rfl h1 h2 hbs)
        · rw [← hxx]; exact fin _ _ _ _ hxx (toStr_run rfl h1 h2 hbs)
    · split at hc0 <;> simp at hc0; subst hc0; simp [cls] at hk
    · simp at hc0
  case makeMap ty r => cases r <;> simp at hc0; subst hc0; simp [cls] at hk
  case makeFunc fn first captured => cases fn <;> simp at hc0; subst hc0; simp [cls] at hk
  case binOp op ty x y yt =>
    simp only at hc0
    unfold cBin cEqOp at hc0
    (repeat' (split at hc0)) <;> first
      | (simp at hc0; done)
      | (simp only [Option.some.injEq] at hc0; subst hc0; simp [cls] at hk; done)
  case call c =>
    simp only [cCall] at hc0
    split at hc0
    · simp only [Option.some.injEq] at hc0; subst hc0; simp [cls] at hk
    · simp only [Option.some.injEq] at hc0; subst hc0; simp [cls] at hk
    rename_i b hb
    have ha := hlen c rfl
    have arr : ∀ {α : Type} {xs : Array α} {l : List α}, xs.toList = l → xs = ⟨l⟩ := fun h => by rw [← h]
    split at hc0
    · rename_i ty x hty hax
      have e1 := arr hty
      have e2 := arr hax
      have hx := ha x (by rw [hax]; simp)
      split at hc0 <;> first | (simp at hc0; done) | (simp only [Option.some.injEq] at hc0; subst hc0; simp [cls] at hk; done) | skip
      rename_i kt et hu
      simp only [Option.some.injEq] at hc0; subst hc0
      refine P_call hb (s := Builtin.len_ c.argTypes type (c.args.map a.eval)) rfl ?_
      rw [e1, e2]
      simp only [List.map_toArray, List.map_cons, List.map_nil]
      simp only [evR] at hv
      split at hv <;> first | (simp at hv; done) | skip
      · rename_i hu'
        simp only [Option.some.injEq] at hv; subst hv
        have vx := eval_sound hT hx hu'
        refine Gives.of (v' := goInt 0) ?_ (.int _ _)
        generalize a.eval x = x' at vx
        cases vx
        simp [Builtin.len_, run_under hu]
      · rename_i r hu'
        split at hv <;> first | (simp at hv; done) | skip
        rename_i es clock hg
        simp only [Option.some.injEq] at hv; subst hv
        have vx := eval_sound hT hx hu'
        refine Gives.of (v' := goInt es.length) ?_ (.int _ _)
        generalize a.eval x = x' at vx
        cases vx with
        | map hb =>
          obtain ⟨es', h1, h2⟩ := map_of hR hb hg
          have hl := h2.length
          simp only [Builtin.len_]
          simp only [List.getElem?_toArray, List.getElem?_cons_zero]
          rw [run_bind_ok (run_under hu)]
          simp only []
          rw [run_bind_ok (getObj_run h1 (by simp))]
          simp only []
          rw [hl]; simp
    all_goals
      (repeat' (split at hc0)) <;> first
        | (simp at hc0; done)
        | (simp only [Option.some.injEq] at hc0; subst hc0; simp [cls] at hk; done)
  all_goals
    (try simp only at hc0)
    (repeat' (split at hc0)) <;> first
      | (simp at hc0; done)
      | (simp only [Option.some.injEq] at hc0; subst hc0; simp [cls] at hk; done)
end
end Ev

/- Soundness of the operations that make a block; how states go on when a block is made, changed, or moved. -/
namespace Ev
open Go

def Rho.put (ρ : Rho) (i : Nat) (x : Nat × Nat) : Rho := fun j => if j = i then some x else ρ j

theorem Rho.sub_put {ρ : Rho} {i : Nat} {x : Nat × Nat} (h : ρ i = none) : Sub ρ (ρ.put i x) := by
  intro j y hy
  unfold Rho.put
  split
  · rename_i e; subst e; rw [h] at hy; cases hy
  · exact hy

theorem Rho.put_same {ρ : Rho} {i : Nat} {x : Nat × Nat} : ρ.put i x i = some x := by simp [Rho.put]
theorem Rho.put_ne {ρ : Rho} {i j : Nat} {x : Nat × Nat} (h : j ≠ i) : ρ.put i x j = ρ j := by simp [Rho.put, h]

/-- 'w'' is 'w' with one block more. -/
structure Push (w : World) (o : Obj) (w' : World) : Prop where
  heap : w'.heap = w.heap.push o
  tape : w'.tape = w.tape
  os : w'.os = w.os
  output : w'.output = w.output

/-- What may become of a block: cells stay cells, of the same type, frozen range and number. -/
def Kd (o o2 : Obj) : Prop := (∃ c c' t f, o = .cells c t f ∧ o2 = .cells c' t f ∧ c'.size = c.size) ∨ ((∀ c t f, o ≠ .cells c t f) ∧ (∀ c t f, o2 ≠ .cells c t f))

theorem Kd.refl (o : Obj) : Kd o o := by
  by_cases h : ∃ c t f, o = .cells c t f
  · obtain ⟨c, t, f, rfl⟩ := h; exact .inl ⟨c, c, t, f, rfl, rfl, rfl⟩
  · exact .inr ⟨fun c t f e => h ⟨c, t, f, e⟩, fun c t f e => h ⟨c, t, f, e⟩⟩

theorem Kd.trans {o o1 o2 : Obj} (h : Kd o o1) (h' : Kd o1 o2) : Kd o o2 := by
  rcases h with ⟨c, c', t, f, rfl, rfl, h1⟩ | ⟨h1, h2⟩
  · rcases h' with ⟨d, d', t', f', e, rfl, h3⟩ | ⟨h3, _⟩
    · simp only [Obj.cells.injEq] at e
      obtain ⟨rfl, rfl, rfl⟩ := e
      exact .inl ⟨c, d', t, f, rfl, rfl, h3.trans h1⟩
    · exact absurd rfl (h3 _ _ _)
  · rcases h' with ⟨d, d', t', f', rfl, rfl, h3⟩ | ⟨h3, h4⟩
    · exact absurd rfl (h2 _ _ _)
    · exact .inr ⟨h1, h4⟩

/-- 'w'' is 'w' but for one block. -/
structure Upd (w : World) (b : Nat) (o : Obj) (w' : World) : Prop where
  size : w'.heap.size = w.heap.size
  at_ : w'.heap[b]? = some o
  ne : ∀ i, i ≠ b → w'.heap[i]? = w.heap[i]?
  tape : w'.tape = w.tape
  os : w'.os = w.os
  output : w'.output = w.output
  kd : ∃ o0, w.heap[b]? = some o0 ∧ Kd o0 o

theorem Push.keep {w w' : World} {o : Obj} (h : Push w o w') : Keep w w' where
  cells := fun b c t f e => ⟨c, by
    have := (Array.getElem?_eq_some_iff.1 e).1
    rw [h.heap, Array.getElem?_push, if_neg (by omega)]; exact e, rfl⟩
  size := by rw [h.heap, Array.size_push]; omega
  fz := fun a ha => by
    simp only [World.frozen?, h.heap, Array.getElem?_push]
    rw [if_neg (by omega)]

theorem Upd.keep {w w' : World} {b : Nat} {o : Obj} (h : Upd w b o w') : Keep w w' where
  cells := fun i c t f e => by
    by_cases hi : i = b
    · subst hi
      obtain ⟨o0, h1, h2⟩ := h.kd
      rw [h1] at e
      simp only [Option.some.injEq] at e; subst e
      rcases h2 with ⟨d, d', t', f', e1, rfl, h3⟩ | ⟨h3, _⟩
      · simp only [Obj.cells.injEq] at e1
        obtain ⟨rfl, rfl, rfl⟩ := e1
        exact ⟨d', h.at_, h3⟩
      · exact absurd rfl (h3 _ _ _)
    · exact ⟨c, by rw [h.ne i hi]; exact e, rfl⟩
  size := by rw [h.size]; exact Nat.le_refl _
  fz := fun a _ => by
    by_cases hi : a.block = b
    · obtain ⟨o0, h1, h2⟩ := h.kd
      simp only [World.frozen?, hi, h1, h.at_]
      rcases h2 with ⟨d, d', t', f', rfl, rfl, h3⟩ | ⟨h3, h4⟩
      · rfl
      · cases o <;> cases o0 <;> first | rfl | exact absurd rfl (h3 _ _ _) | exact absurd rfl (h4 _ _ _)
    · simp only [World.frozen?, h.ne _ hi]

section
variable {P : Program} {ρ : Rho} {s : S} {w : World} {t : List Value} {a : Act}

theorem rel_new (hR : Rel P ρ s w) {i r c' : Nat} {o : AObj} {o' : Obj} {w' : World} (hi : ρ i = none) (hle : s.c ≤ c') (hic : i < c') (hw : Push w o' w')
    (ho : OR P (ρ.put i (w.heap.size, r)) r o o') : Rel P (ρ.put i (w.heap.size, r)) { h := s.h.set i (some o), c := c' } w' where
  obj := fun j o1 b r1 hg hb => by
    simp only [Tr.get_set] at hg
    split at hg
    · rename_i e; subst e
      simp only [Option.some.injEq] at hg; subst hg
      rw [Rho.put_same] at hb
      simp only [Option.some.injEq, Prod.mk.injEq] at hb
      obtain ⟨rfl, rfl⟩ := hb
      exact ⟨o', by rw [hw.heap]; simp, ho⟩
    · rename_i e
      rw [Rho.put_ne e] at hb
      obtain ⟨o1', h1, h2⟩ := hR.obj j o1 b r1 hg hb
      have hlt := hR.blk _ _ _ hb
      exact ⟨o1', by rw [hw.heap, Array.getElem?_push, if_neg (by omega)]; exact h1, h2.mono (Rho.sub_put hi)⟩
  inj := fun j k o1 o2 b r1 r2 hj hk hbj hbk => by
    simp only [Tr.get_set] at hj hk
    by_cases ej : j = i
    · subst ej
      rw [Rho.put_same] at hbj
      simp only [Option.some.injEq, Prod.mk.injEq] at hbj
      by_cases ek : k = j
      · exact ek.symm
      · rw [Rho.put_ne ek] at hbk; have := hR.blk _ _ _ hbk; omega
    · rw [if_neg ej] at hj
      rw [Rho.put_ne ej] at hbj
      by_cases ek : k = i
      · subst ek
        rw [Rho.put_same] at hbk
        simp only [Option.some.injEq, Prod.mk.injEq] at hbk
        have := hR.blk _ _ _ hbj; omega
      · rw [if_neg ek] at hk
        rw [Rho.put_ne ek] at hbk
        exact hR.inj j k _ _ _ _ _ hj hk hbj hbk
  fresh := fun j hj => by
    rw [Rho.put_ne (by simp only at hj; omega)]
    exact hR.fresh j (by simp only at hj; omega)
  blk := fun j b r1 hb => by
    rw [hw.heap, Array.size_push]
    by_cases e : j = i
    · subst e; rw [Rho.put_same] at hb; simp only [Option.some.injEq, Prod.mk.injEq] at hb; omega
    · rw [Rho.put_ne e] at hb; have := hR.blk _ _ _ hb; omega
  wf := fun j hj => by
    simp only at hj
    simp only [Tr.get_set]
    rw [if_neg (by omega)]
    exact hR.wf j (by omega)

theorem ext_new (hR : Rel P ρ s w) {N : Nat → Prop} {i r c' : Nat} {o : AObj} {o' : Obj} {w' : World} (hi : ρ i = none) (hle : s.c ≤ c') (hic : i < c') (hlo : N i ∨ s.c ≤ i) (hw : Push w o' w') :
    Ext N ρ s w (ρ.put i (w.heap.size, r)) { h := s.h.set i (some o), c := c' } w' where
  sub := Rho.sub_put hi
  new := fun j h1 h2 => by
    by_cases e : j = i
    · subst e; exact ⟨hlo, hic⟩
    · rw [Rho.put_ne e] at h2; exact absurd h1 h2
  dead := fun j h1 h2 h3 => by
    simp only [Tr.get_set]
    rw [if_neg (fun e => by subst e; exact hlo.elim h2 (fun h => by omega))]
    exact h3
  cle := hle
  size := by rw [hw.heap, Array.size_push]; omega
  frame := fun b hb _ => by rw [hw.heap, Array.getElem?_push, if_neg (by omega)]
  img := fun j o1 b r1 hg hb hlt => by
    simp only [Tr.get_set] at hg
    by_cases e : j = i
    · subst e; rw [Rho.put_same] at hb; simp only [Option.some.injEq, Prod.mk.injEq] at hb; omega
    · rw [if_neg e] at hg; rw [Rho.put_ne e] at hb; exact ⟨j, o1, r1, hg, hb, id⟩
  tape := hw.tape
  os := hw.os
  output := hw.output
  keep := hw.keep

theorem rel_upd (hR : Rel P ρ s w) {i b r : Nat} {o o2 : AObj} {o2' : Obj} {w' : World} (hg : s.h.get i = some o) (hb : ρ i = some (b, r)) (hw : Upd w b o2' w')
    (ho : OR P ρ r o2 o2') : Rel P ρ { s with h := s.h.set i (some o2) } w' where
  obj := fun j o1 b1 r1 hgj hbj => by
    simp only [Tr.get_set] at hgj
    by_cases e : j = i
    · subst e
      rw [if_pos rfl] at hgj
      simp only [Option.some.injEq] at hgj; subst hgj
      rw [hb] at hbj
      simp only [Option.some.injEq, Prod.mk.injEq] at hbj
      obtain ⟨rfl, rfl⟩ := hbj
      exact ⟨o2', hw.at_, ho⟩
    · rw [if_neg e] at hgj
      obtain ⟨o1', h1, h2⟩ := hR.obj j o1 b1 r1 hgj hbj
      refine ⟨o1', ?_, h2⟩
      rw [hw.ne _ fun eb => e (by subst eb; exact hR.inj j i _ _ _ _ _ hgj hg hbj hb)]
      exact h1
  inj := fun j k o1 o3 b1 r1 r2 hj hk hbj hbk => by
    simp only [Tr.get_set] at hj hk
    have live : ∀ {j o1}, (if j = i then some o2 else s.h.get j) = some o1 → ∃ o, s.h.get j = some o := by
      intro j o1 h
      split at h
      · rename_i e; subst e; exact ⟨_, hg⟩
      · exact ⟨_, h⟩
    obtain ⟨_, h1⟩ := live hj
    obtain ⟨_, h2⟩ := live hk
    exact hR.inj j k _ _ _ _ _ h1 h2 hbj hbk
  fresh := fun j hj => hR.fresh j hj
  blk := fun j b1 r1 h => by rw [hw.size]; exact hR.blk _ _ _ h
  wf := fun j hj => by
    simp only [Tr.get_set]
    rw [if_neg (fun e => by subst e; have := hR.wf j hj; rw [hg] at this; cases this)]
    exact hR.wf j hj

theorem ext_upd (N : Nat → Prop) {i b r : Nat} {o o2 : AObj} {o2' : Obj} {w' : World} (hg : s.h.get i = some o) (hb : ρ i = some (b, r)) (hw : Upd w b o2' w') (hro : o.ro = false := by rfl) :
    Ext N ρ s w ρ { s with h := s.h.set i (some o2) } w' where
  sub := Sub.refl ρ
  new := fun j h1 h2 => absurd h1 h2
  dead := fun j _ _ h3 => by
    simp only [Tr.get_set]
    rw [if_neg (fun e => by subst e; rw [hg] at h3; cases h3)]
    exact h3
  cle := Nat.le_refl _
  size := by rw [hw.size]; exact Nat.le_refl _
  frame := fun b1 _ hn => hw.ne b1 fun e => by subst e; have := hn i o r hg hb; rw [hro] at this; cases this
  img := fun j o1 b1 r1 hgj hbj _ => by
    simp only [Tr.get_set] at hgj
    split at hgj
    · rename_i e; subst e; exact ⟨j, o, r1, hg, hbj, fun h => by rw [hro] at h; cases h⟩
    · exact ⟨j, o1, r1, hgj, hbj, id⟩
  tape := hw.tape
  os := hw.os
  output := hw.output
  keep := hw.keep

/-- A block that moves to a new number, in its place. -/
theorem rel_move (hR : Rel P ρ s w) {i b r : Nat} {o o2 : AObj} {o2' : Obj} {w' : World} (hg : s.h.get i = some o) (hb : ρ i = some (b, r)) (hw : Upd w b o2' w')
    (ho : OR P (ρ.put s.c (b, r)) r o2 o2') : Rel P (ρ.put s.c (b, r)) { h := (s.h.set i none).set s.c (some o2), c := s.c + 1 } w' := by
  have hf := hR.fresh s.c (Nat.le_refl _)
  have hne : ∀ {j b r}, ρ j = some (b, r) → j ≠ s.c := by intro j b r h e; subst e; rw [hf] at h; cases h
  refine ⟨fun j o1 b1 r1 hgj hbj => ?_, fun j k o1 o3 b1 r1 r2 hj hk hbj hbk => ?_, fun j hj => ?_, fun j b1 r1 h => ?_, fun j hj => ?_⟩
  · simp only [Tr.get_set] at hgj
    by_cases e : j = s.c
    · subst e
      rw [if_pos rfl] at hgj
      simp only [Option.some.injEq] at hgj; subst hgj
      rw [Rho.put_same] at hbj
      simp only [Option.some.injEq, Prod.mk.injEq] at hbj
      obtain ⟨rfl, rfl⟩ := hbj
      exact ⟨o2', hw.at_, ho⟩
    · rw [if_neg e] at hgj
      rw [Rho.put_ne e] at hbj
      split at hgj
      · cases hgj
      · rename_i e2
        obtain ⟨o1', h1, h2⟩ := hR.obj j o1 b1 r1 hgj hbj
        refine ⟨o1', ?_, h2.mono (Rho.sub_put hf)⟩
        rw [hw.ne _ fun eb => e2 (by subst eb; exact hR.inj j i _ _ _ _ _ hgj hg hbj hb)]
        exact h1
  · simp only [Tr.get_set] at hj hk
    have old : ∀ {j o1 b1 r1}, j ≠ s.c → (if j = s.c then some o2 else if j = i then none else s.h.get j) = some o1 → ρ.put s.c (b, r) j = some (b1, r1) →
        s.h.get j = some o1 ∧ j ≠ i ∧ ρ j = some (b1, r1) := by
      intro j o1 b1 r1 e h h'
      rw [if_neg e] at h
      rw [Rho.put_ne e] at h'
      split at h
      · cases h
      · exact ⟨h, ‹_›, h'⟩
    have new : ∀ {j b1 r1}, j = s.c → ρ.put s.c (b, r) j = some (b1, r1) → b1 = b := by
      intro j b1 r1 e h
      subst e; rw [Rho.put_same] at h; simp only [Option.some.injEq, Prod.mk.injEq] at h; exact h.1.symm
    by_cases ej : j = s.c
    · by_cases ek : k = s.c
      · rw [ej, ek]
      · obtain ⟨h1, h2, h3⟩ := old ek hk hbk
        have := new ej hbj
        subst this
        exact absurd (hR.inj k i _ _ _ _ _ h1 hg h3 hb) h2
    · obtain ⟨h1, h2, h3⟩ := old ej hj hbj
      by_cases ek : k = s.c
      · have := new ek hbk
        subst this
        exact absurd (hR.inj j i _ _ _ _ _ h1 hg h3 hb) h2
      · obtain ⟨h4, h5, h6⟩ := old ek hk hbk
        exact hR.inj j k _ _ _ _ _ h1 h4 h3 h6
  · rw [Rho.put_ne (by simp only at hj; omega)]; exact hR.fresh j (by simp only at hj; omega)
  · rw [hw.size]
    by_cases e : j = s.c
    · subst e; rw [Rho.put_same] at h; simp only [Option.some.injEq, Prod.mk.injEq] at h; have := hR.blk _ _ _ hb; omega
    · rw [Rho.put_ne e] at h; exact hR.blk _ _ _ h
  · simp only at hj
    simp only [Tr.get_set]
    rw [if_neg (by omega)]
    split
    · rfl
    · exact hR.wf j (by omega)

theorem ext_move (hR : Rel P ρ s w) {i b r : Nat} {o o2 : AObj} {o2' : Obj} {w' : World} (hg : s.h.get i = some o) (hb : ρ i = some (b, r)) (hw : Upd w b o2' w') (hro : o.ro = false := by rfl) :
    Ext No ρ s w (ρ.put s.c (b, r)) { h := (s.h.set i none).set s.c (some o2), c := s.c + 1 } w' where
  sub := Rho.sub_put (hR.fresh s.c (Nat.le_refl _))
  new := fun j h1 h2 => by
    by_cases e : j = s.c
    · subst e; exact ⟨.inr (Nat.le_refl _), Nat.lt_succ_self _⟩
    · rw [Rho.put_ne e] at h2; exact absurd h1 h2
  dead := fun j h1 _ h3 => by
    simp only [Tr.get_set]
    rw [if_neg (by omega)]
    split
    · rfl
    · exact h3
  cle := Nat.le_succ _
  size := by rw [hw.size]; exact Nat.le_refl _
  frame := fun b1 _ hn => hw.ne b1 fun e => by subst e; have := hn i o r hg hb; rw [hro] at this; cases this
  img := fun j o1 b1 r1 hgj hbj _ => by
    simp only [Tr.get_set] at hgj
    by_cases e : j = s.c
    · subst e; rw [Rho.put_same] at hbj; simp only [Option.some.injEq, Prod.mk.injEq] at hbj
      obtain ⟨rfl, rfl⟩ := hbj
      exact ⟨i, o, r, hg, hb, fun h => by rw [hro] at h; cases h⟩
    · rw [if_neg e] at hgj
      rw [Rho.put_ne e] at hbj
      split at hgj
      · cases hgj
      · exact ⟨j, o1, r1, hgj, hbj, id⟩
  tape := hw.tape
  os := hw.os
  output := hw.output
  keep := hw.keep

/-- A block that is left, and one that is made. -/
theorem rel_drop (hR : Rel P ρ s w) (i : Nat) : Rel P ρ { s with h := s.h.set i none } w where
  obj := fun j o1 b r1 hg hb => by
    simp only [Tr.get_set] at hg
    split at hg
    · cases hg
    · exact hR.obj j o1 b r1 hg hb
  inj := fun j k o1 o2 b r1 r2 hj hk hbj hbk => by
    simp only [Tr.get_set] at hj hk
    split at hj
    · cases hj
    · split at hk
      · cases hk
      · exact hR.inj j k _ _ _ _ _ hj hk hbj hbk
  fresh := hR.fresh
  blk := hR.blk
  wf := fun j hj => by
    simp only [Tr.get_set]
    split
    · rfl
    · exact hR.wf j hj

theorem ext_drop (N : Nat → Prop) (i : Nat) : Ext N ρ s w ρ { s with h := s.h.set i none } w where
  sub := Sub.refl ρ
  new := fun j h1 h2 => absurd h1 h2
  dead := fun j _ _ h3 => by
    simp only [Tr.get_set]
    split
    · rfl
    · exact h3
  cle := Nat.le_refl _
  size := Nat.le_refl _
  frame := fun _ _ _ => rfl
  img := fun j o1 b r1 hg hb _ => by
    simp only [Tr.get_set] at hg
    split at hg
    · cases hg
    · exact ⟨j, o1, r1, hg, hb, id⟩
  tape := rfl
  os := rfl
  output := rfl
  keep := Keep.refl w

/-! what makes a block -/
theorem newRow_run (ty : TypeId) (c : Array Value) : (newRow ty c).run P w = .ok ⟨w.heap.size, 0, none⟩ { w with heap := w.heap.push (.cells c ty) } := by
  simp [newRow]

theorem OR_cells {c : List Value} {c' : Array Value} {ty : TypeId} (h : VRL ρ c c'.toList) : OR P ρ c'.size (.cells c ty 0 0) (.cells c' ty (0, 0)) :=
  .cells rfl (by have := h.length; simp at this; omega) (fun i v hv => by simpa using h.nth hv) (fun i h1 h2 => by simp at h2)

/-- What an operation makes. -/
def Makes (P : Program) (ρ : Rho) (w : World) (slot : Nat) (o : AObj) (v : Value) (n : Sem Next) : Prop :=
  ∃ v' w' o' r, n.run P w = .ok (.value v') w' ∧ Push w o' w' ∧ OR P (ρ.put slot (w.heap.size, r)) r o o' ∧ VR (ρ.put slot (w.heap.size, r)) v v'

theorem Makes.of {slot : Nat} {o : AObj} {v v' : Value} {w' : World} {o' : Obj} {r : Nat} {n : Sem Value} (h : n.run P w = .ok v' w') (hp : Push w o' w')
    (ho : OR P (ρ.put slot (w.heap.size, r)) r o o') (hv : VR (ρ.put slot (w.heap.size, r)) v v') : Makes P ρ w slot o v (do pure (.value (← n))) :=
  ⟨v', w', o', r, val_run h, hp, ho, hv⟩

theorem flatten_replicate_rel {z : List Value} (hz : VRL ρ z z) (n : Nat) : VRL ρ (List.flatten (List.replicate n z)) (List.flatten (List.replicate n z)) := by
  induction n with
  | zero => exact .nil
  | succ n ih => simp only [List.replicate_succ, List.flatten_cons]; exact hz.append ih

theorem flatten_get {α : Type} (l : List α) (hl : 0 < l.length) : ∀ (n i : Nat), (List.flatten (List.replicate n l))[i]? = if i < n * l.length then l[i % l.length]? else none := by
  intro n
  induction n with
  | zero => intro i; simp
  | succ n ih =>
    intro i
    simp only [List.replicate_succ, List.flatten_cons]
    rw [List.getElem?_append]
    have e : (n + 1) * l.length = n * l.length + l.length := Nat.succ_mul _ _
    split
    · rename_i h
      rw [if_pos (by omega), Nat.mod_eq_of_lt h]
    · rename_i h
      rw [ih]
      by_cases h2 : i - l.length < n * l.length
      · rw [if_pos h2, if_pos (by omega)]
        rw [Nat.mod_eq_sub_mod (a := i) (by omega)]
      · rw [if_neg h2, if_neg (by omega)]

theorem range_mod {z : Array Value} (hz : 0 < z.size) (n : Nat) : ((Array.range (n * z.size)).map (z[· % z.size]!)).toList = List.flatten (List.replicate n z.toList) := by
  apply List.ext_getElem?
  intro i
  rw [flatten_get z.toList (by simpa using hz)]
  have e : z.toList.length = z.size := by simp
  rw [e]
  by_cases h : i < n * z.size
  · rw [if_pos h]
    have h2 : i % z.size < z.size := Nat.mod_lt _ hz
    simp [h, h2]
  · rw [if_neg h]
    simp [h]

theorem A_sound {o : Oper} {k : MK} {ob : AObj} {g : Id → Value} {slot : Nat} (hT : VRL ρ t a.tmps.toList) (hslot : ρ slot = none) (hc : cOp P o = some k) (hk : cls k = .a)
    (hv : evA k t = some (ob, g)) : Makes P ρ w slot ob (g slot) (execOp a.eval o) := by
  unfold cOp at hc
  split at hc <;> first | simp at hc; done | skip
  rename_i hok
  split at hc <;> first | simp at hc; done | skip
  rename_i k' hc0
  split at hc <;> first | simp at hc; done | skip
  rename_i hcl
  simp only [Option.some.injEq] at hc; subst hc
  have ok : ∀ x, x ∈ o.op.operands.toList → okOpd x = true := fun x hx => okOpd_of hok hx
  clear hok
  obtain ⟨dst, op, type, pos, after, guard⟩ := o
  simp only at ok
  have hsub : Sub ρ (ρ.put slot (w.heap.size, 0)) := Rho.sub_put hslot
  have up : ∀ {x : Nat × Nat} {l l' : List Value}, VRL ρ l l' → VRL (ρ.put slot x) l l' := fun h => h.mono (Rho.sub_put hslot)
  unfold cOp0 at hc0
  cases op <;> try (simp at hc0; done)
  case alloc ty =>
    simp only at hc0
    split at hc0 <;> first | simp at hc0; done | skip
    rename_i z hz
    simp only [Option.some.injEq] at hc0; subst hc0
    simp only [evA, Option.some.injEq, Prod.mk.injEq] at hv
    obtain ⟨rfl, rfl⟩ := hv
    refine Makes.of (w' := { w with heap := w.heap.push (.cells z.cells ty) }) ?_ ⟨rfl, rfl, rfl, rfl⟩ (OR_cells (closed_VRL (by simpa [closedAll] using hcl))) (.ptr Rho.put_same)
    simp only [Instr.alloc]
    rw [run_bind_ok (run_zero hz)]
    simp only [newVar]
    rw [run_bind_ok (newRow_run _ _)]
    rfl
  case box ty x =>
    simp only [Option.some.injEq] at hc0; subst hc0
    simp only [evA] at hv
    split at hv <;> first | (simp at hv; done) | skip
    rename_i u hu
    simp only [Option.some.injEq, Prod.mk.injEq] at hv
    obtain ⟨rfl, rfl⟩ := hv
    have vx := eval_sound hT (ok x (by simp [Op.operands])) hu
    refine Makes.of (w' := { w with heap := w.heap.push (.cells (a.eval x).cells ty) }) ?_ ⟨rfl, rfl, rfl, rfl⟩ (OR_cells (up (cellsOf_rel vx))) (.ptr Rho.put_same)
    simp only [Instr.box, newVar]
    rw [run_bind_ok (newRow_run _ _)]
    rfl
  case buildSlice ty len parts =>
    have hok : parts.toList.all (fun p => okOpd p.2) = true := by
      simp only [List.all_eq_true]
      exact fun p hp => ok p.2 (by simp only [Op.operands, List.mem_toArray]; simpa using ⟨p.1, by simpa using hp⟩)
    simp only at hc0
    split at hc0 <;> first | simp at hc0; done | skip
    rename_i e hu
    split at hc0 <;> first | simp at hc0; done | skip
    rename_i n hs
    split at hc0 <;> first | simp at hc0; done | skip
    rename_i hsm
    split at hc0 <;> first | simp at hc0; done | skip
    rename_i z hz
    split at hc0 <;> first | simp at hc0; done | skip
    rename_i ps hq
    simp only [Option.some.injEq] at hc0; subst hc0
    simp only [evA] at hv
    split at hv <;> first | (simp at hv; done) | skip
    rename_i vs hvs
    split at hv <;> first | (simp at hv; done) | skip
    rename_i cs hf
    simp only [Option.some.injEq, Prod.mk.injEq] at hv
    obtain ⟨rfl, rfl⟩ := hv
    obtain ⟨cs', h1, h2⟩ := fill_rel hT hq hok hvs hf (z' := (Array.range (len * n)).map (z[· % z.size]!)) (closed_VRL (by simpa [closedAll] using hcl))
    have hlen : len < unk := by unfold unk; omega
    refine Makes.of (w' := { w with heap := w.heap.push (.cells cs' e) }) ?_ ⟨rfl, rfl, rfl, rfl⟩ (OR_cells (up h2)) (.slice Rho.put_same hlen)
    simp only [Instr.buildSlice]
    rw [run_bind_ok (run_under hu)]
    simp only []
    rw [run_bind_ok (run_size hs)]
    rw [if_neg (by simp at hsm ⊢; omega)]
    have hfill : Instr.fill (fun i => some (i * n, n)) ((Array.range (len * n)).map (z[· % z.size]!)) (Array.map (fun x => (x.fst, a.eval x.snd)) parts).toList = some cs' := by
      rw [← h1]
      congr 1
      simp
    split at hz
    · rename_i h0
      simp only [Option.some.injEq] at hz; subst hz
      rw [if_pos h0, run_bind_ok (run_pure _), hfill]
      simp only []
      rw [run_bind_ok (newRow_run _ _)]
      rfl
    · rename_i h0
      cases hze : zeroT P e with
      | none => simp [hze] at hz
      | some z0 =>
        simp only [hze, Option.map_some, Option.some.injEq] at hz; subst hz
        rw [if_neg h0, run_bind_ok (run_zero hze), run_bind_ok (run_pure _), hfill]
        simp only []
        rw [run_bind_ok (newRow_run _ _)]
        rfl
  case makeMap ty r =>
    cases r <;> simp at hc0
    subst hc0
    simp only [evA, Option.some.injEq, Prod.mk.injEq] at hv
    obtain ⟨rfl, rfl⟩ := hv
    refine Makes.of (w' := { w with heap := w.heap.push (.map #[] 0) }) (r := 0) ?_ ⟨rfl, rfl, rfl, rfl⟩ (.map .nil) (.map Rho.put_same)
    simp [Instr.makeMap]
  case makeSlice ty l c =>
    simp only at hc0
    split at hc0 <;> first | simp at hc0; done | skip
    rename_i e hu
    split at hc0 <;> first | simp at hc0; done | skip
    rename_i i hi
    split at hc0 <;> first | simp at hc0; done | skip
    rename_i z hz
    split at hc0 <;> first | simp at hc0; done | skip
    rename_i hzs
    simp only [Option.some.injEq] at hc0; subst hc0
    simp only [evA] at hv
    split at hv <;> first | (simp at hv; done) | skip
    rename_i kl lv kc cv hl hc
    split at hv <;> first | (simp at hv; done) | skip
    rename_i hb
    simp only [Option.some.injEq, Prod.mk.injEq] at hv
    obtain ⟨rfl, rfl⟩ := hv
    have vl := eval_sound hT (ok l (by simp [Op.operands])) hl
    have vc := eval_sound hT (ok c (by simp [Op.operands])) hc
    have hzr : VRL ρ z.cells.toList z.cells.toList := closed_VRL (by simpa [closedAll] using hcl)
    have hsz : z.cells.size = i.size := hzs.1
    have hr := range_mod (z := z.cells) (by omega) cv.toNat
    refine Makes.of (w' := { w with heap := w.heap.push (.cells ((Array.range (cv.toNat * z.cells.size)).map (z.cells[· % z.cells.size]!)) e) }) ?_ ⟨rfl, rfl, rfl, rfl⟩
      (OR_cells (up (by rw [hr]; exact flatten_replicate_rel hzr _))) (.slice Rho.put_same (by unfold unk; omega))
    generalize a.eval l = l' at vl
    generalize a.eval c = c' at vc
    cases vl; cases vc
    simp only [Instr.makeSlice]
    rw [run_bind_ok (run_under hu)]
    simp only [asInt, asIntOf, pure_bind]
    rw [run_bind_ok (run_info hi)]
    have wl : IntKind.i64.wrap lv = lv := by simp [IntKind.wrap, IntKind.bits, IntKind.signed]; omega
    have wc : IntKind.i64.wrap cv = cv := by simp [IntKind.wrap, IntKind.bits, IntKind.signed]; omega
    rw [wl, wc]
    have hbytes : (i.bytes : Int) * cv ≤ 2 ^ 48 := by
      have h1 : (i.bytes : Int) * cv ≤ 65536 * 16777216 := Int.mul_le_mul (by omega) (by omega) (by omega) (by omega)
      omega
    have hcond : ((decide (cv < 0) || decide ((i.bytes : Int) * cv > 2 ^ 48)) || decide (lv < 0) || decide (lv > cv)) = false := by
      simp only [Bool.or_eq_false_iff, decide_eq_false_iff_not]
      omega
    rw [if_neg (by rw [hcond]; decide)]
    have hs : sizeT P e = some i.size := by simp [sizeT, hi]
    rw [run_bind_ok (run_askRoom P w _), run_bind_ok (run_size hs)]
    by_cases h0 : cv.toNat * i.size = 0
    · have hc0 : cv.toNat = 0 := by
        rcases Nat.mul_eq_zero.1 h0 with h | h
        · exact h
        · omega
      rw [if_pos h0, run_bind_ok (newRow_run _ _), hc0]
      have e0 : Array.range 0 = #[] := rfl
      simp [e0]
    · rw [if_neg h0, run_bind_ok (run_zero (show zeroT P e = some z by simp [zeroT, hi, hz])), run_bind_ok (newRow_run _ _), hsz]
      rfl
  case convert src dst' x =>
    have hx := ok x (by simp [Op.operands])
    simp only at hc0
    split at hc0
    · simp only [Option.some.injEq] at hc0; subst hc0; simp [evA] at hv
    · simp only [Option.some.injEq] at hc0; subst hc0; simp [evA] at hv
    · simp only [Option.some.injEq] at hc0; subst hc0; simp [evA] at hv
    · split at hc0 <;> simp at hc0; subst hc0; simp [evA] at hv
    · rename_i e hs hd
      split at hc0 <;> first | (simp at hc0; done) | skip
      rename_i he
      simp only [Option.some.injEq] at hc0; subst hc0
      simp only [evA] at hv
      split at hv <;> first | (simp at hv; done) | skip
      rename_i b hu
      simp only [Option.some.injEq, Prod.mk.injEq] at hv
      obtain ⟨rfl, rfl⟩ := hv
      have vx := eval_sound hT hx hu
      generalize hcap : (Question.appendCap b.size 0 e).cut (w.tape w.drawn (Question.appendCap b.size 0 e)) = cap
      have hge : b.size ≤ cap := by rw [← hcap]; simp [Question.cut]
      generalize hc' : (b.data.map fun b => Value.int .u8 b.toNat) ++ Array.replicate (cap - b.size) (Value.int .u8 0) = c'
      have hcs : c'.size = cap := by rw [← hc']; simp; have : b.data.size = b.size := rfl; omega
      refine Makes.of (v' := .slice (some ⟨w.heap.size, 0, none⟩) b.size cap) (w' := { w with heap := w.heap.push (.cells c' e (cap, cap + 1)), drawn := w.drawn + 1 }) (r := c'.size) ?_ ⟨rfl, rfl, rfl, rfl⟩
        (.cells rfl ?_ (fun i v h => ?_) (fun i h1 h2 h3 => by simp at h1 h2; omega)) ?_
      · generalize a.eval x = x' at vx
        cases vx
        simp only [convert]
        rw [run_bind_ok (run_under hs), run_bind_ok (run_under hd)]
        simp only []
        rw [run_bind_ok (run_under he)]
        simp only [Conv.stringToBytes]
        rw [run_bind_ok (a := cap) (w' := { w with drawn := w.drawn + 1 }) (by simp only [choose, Sem.run, Question.forced, Bool.false_eq_true, if_false, hcap])]
        rw [hc', run_bind_ok (newRow_run _ _)]
        have hm : (markStringish ⟨w.heap.size, 0, none⟩).run P { w with heap := w.heap.push (.cells c' e), drawn := w.drawn + 1 } = .ok () { w with heap := w.heap.push (.cells c' e (cap, cap + 1)), drawn := w.drawn + 1 } := by
          simp only [markStringish]
          rw [run_bind_ok (run_shape _ _ _)]
          simp only [World.shape?, Array.getElem?_push, if_true, run_freeze, World.freeze, hcs, Nat.one_ne_zero, if_false, beq_self_eq_true]
          congr 2
          apply Array.ext_getElem?
          intro i
          simp only [Array.getElem?_modify, Array.getElem?_push]
          by_cases hi : w.heap.size = i
          · subst hi; simp
          · simp [hi, Ne.symm hi]
        rw [run_bind_ok hm]
        rfl
      · rw [hcs]; simp; have : b.data.size = b.size := rfl; omega
      · rw [nth_eq] at h
        refine ⟨v, ?_, ?_⟩
        · rw [← hc', Array.getElem?_append]
          have hlt : i < b.data.size := by have := (List.getElem?_eq_some_iff.1 h).1; simpa using this
          rw [if_pos (by simpa using hlt)]
          simpa using h
        · obtain ⟨hl, h⟩ := List.getElem?_eq_some_iff.1 h
          subst h
          simp only [List.getElem_map]
          exact .int _ _
      · exact .sliceU Rho.put_same hge (by omega) (by omega)
    · simp at hc0
  case range ty x =>
    have hx := ok x (by simp [Op.operands])
    simp only at hc0
    split at hc0 <;> first | simp at hc0; done | skip
    · rename_i hu
      simp only [Option.some.injEq] at hc0; subst hc0
      simp only [evA] at hv
      split at hv <;> first | (simp at hv; done) | skip
      rename_i b hub
      simp only [Option.some.injEq, Prod.mk.injEq] at hv
      obtain ⟨rfl, rfl⟩ := hv
      have vx := eval_sound hT hx hub
      refine Makes.of (w' := { w with heap := w.heap.push (.stringIter b 0) }) (r := 0) ?_ ⟨rfl, rfl, rfl, rfl⟩ (.strIter b 0) (.ptr Rho.put_same)
      generalize a.eval x = x' at vx
      cases vx
      simp only [Instr.range]
      rw [run_bind_ok (run_under hu)]
      simp
    · simp only [Option.some.injEq] at hc0; subst hc0; simp [cls] at hk
  case makeFunc fn first captured => cases fn <;> simp at hc0; subst hc0; simp [cls] at hk
  case binOp op ty x y yt =>
    simp only at hc0
    unfold cBin cEqOp at hc0
    (repeat' (split at hc0)) <;> first
      | (simp at hc0; done)
      | (simp only [Option.some.injEq] at hc0; subst hc0; simp [cls] at hk; done)
  case call c =>
    simp only [cCall] at hc0
    (repeat' (split at hc0)) <;> first
      | (simp at hc0; done)
      | (simp only [Option.some.injEq] at hc0; subst hc0; simp [cls] at hk; done)
  all_goals
    (try simp only at hc0)
    (repeat' (split at hc0)) <;> first
      | (simp at hc0; done)
      | (simp only [Option.some.injEq] at hc0; subst hc0; simp [cls] at hk; done)
end
end Ev

/- Soundness of the operations that write memory. -/
namespace Ev
open Go

theorem Upd.refl {w : World} {b : Nat} {o : Obj} (h : w.heap[b]? = some o) : Upd w b o w := ⟨rfl, h, fun _ _ => rfl, rfl, rfl, rfl, o, h, Kd.refl o⟩
theorem Upd.trans {w w1 w2 : World} {b : Nat} {o1 o2 : Obj} (h : Upd w b o1 w1) (h' : Upd w1 b o2 w2) : Upd w b o2 w2 :=
  ⟨h'.size.trans h.size, h'.at_, fun i hi => (h'.ne i hi).trans (h.ne i hi), h'.tape.trans h.tape, h'.os.trans h.os, h'.output.trans h.output, by
    obtain ⟨o0, h1, h2⟩ := h.kd
    obtain ⟨o1', h3, h4⟩ := h'.kd
    rw [h.at_] at h3
    simp only [Option.some.injEq] at h3; subst h3
    exact ⟨o0, h1, h2.trans h4⟩⟩

section
variable {P : Program} {ρ : Rho} {s : S} {w : World} {t : List Value} {a : Act}

theorem upd_setCell {b o : Nat} {c : Array Value} {ty : TypeId} {f : Nat × Nat} (v : Value) (h : w.heap[b]? = some (.cells c ty f)) :
    Upd w b (.cells (c.setIfInBounds o v) ty f) (w.setCell ⟨b, o, none⟩ v) := by
  refine ⟨by simp [World.setCell], ?_, fun i hi => ?_, rfl, rfl, rfl, _, h, .inl ⟨_, _, _, _, rfl, rfl, by simp⟩⟩
  · simp [World.setCell, Array.getElem?_modify, h]
  · simp [World.setCell, Array.getElem?_modify, Ne.symm hi]

theorem upd_setObj {b : Nat} {o o2 : Obj} (h : w.heap[b]? = some o) (hk : Kd o o2 := by exact .inr ⟨(fun _ _ _ e => by cases e), (fun _ _ _ e => by cases e)⟩) : Upd w b o2 { w with heap := w.heap.setIfInBounds b o2 } := by
  have hlt : b < w.heap.size := (Array.getElem?_eq_some_iff.1 h).1
  refine ⟨by simp, ?_, fun i hi => ?_, rfl, rfl, rfl, _, h, hk⟩
  · simp [hlt]
  · simp [Array.getElem?_setIfInBounds_ne (Ne.symm hi)]

theorem setObj_run {b : Nat} {o o2 : Obj} (h : w.heap[b]? = some o) (hc : ∀ c t f, o ≠ .cells c t f) : (setObj b o2).run P w = .ok () { w with heap := w.heap.setIfInBounds b o2 } := by
  simp only [setObj, Sem.run, h]

theorem store_run {b o : Nat} {c : Array Value} {ty : TypeId} {f : Nat × Nat} {v : Value} (h : w.heap[b]? = some (.cells c ty f)) (ho : o < c.size) (hs : single v = true)
    (hf : ¬ (f.1 ≤ o ∧ o < f.2)) : (store ⟨b, o, none⟩ v).run P w = .ok () (w.setCell ⟨b, o, none⟩ v) := by
  have hc : w.cell? ⟨b, o, none⟩ = some c[o] := by simp [World.cell?, h, ho]
  have hz : w.frozen? ⟨b, o, none⟩ = false := by
    obtain ⟨f1, f2⟩ := f
    simp only [World.frozen?, h]
    simp only at hf
    simpa using hf
  unfold store
  cases v <;> simp [single] at hs <;> simp [Sem.run, hc, hz]

theorem storeCells_run {b o : Nat} {ty : TypeId} {f : Nat × Nat} : ∀ (vs : List Value) (i : Nat) (c : Array Value) (w : World), w.heap[b]? = some (.cells c ty f) → o + i + vs.length ≤ c.size →
    vs.all single = true → (∀ k, o + i ≤ k → k < o + i + vs.length → ¬ (f.1 ≤ k ∧ k < f.2)) →
    ∃ w', (storeCells ⟨b, o, none⟩ vs i).run P w = .ok () w' ∧ Upd w b (.cells ((vs.zipIdx (o + i)).foldl (fun (cs : Array Value) (c : Value × Nat) => cs.setIfInBounds c.2 c.1) c) ty f) w' := by
  intro vs
  induction vs with
  | nil => intro i c w h _ _ _; exact ⟨w, rfl, Upd.refl h⟩
  | cons v vs ih =>
    intro i c w h hl hs hf
    simp only [List.all_cons, Bool.and_eq_true] at hs
    simp only [List.length_cons] at hl hf
    have h1 := store_run (P := P) (v := v) h (o := o + i) (by omega) hs.1 (hf _ (by omega) (by omega))
    have hu := upd_setCell (o := o + i) v h
    obtain ⟨w', h2, h3⟩ := ih (i + 1) _ _ hu.at_ (by simp; omega) hs.2 (fun k h1 h2 => hf k (by omega) (by omega))
    refine ⟨w', ?_, hu.trans h3⟩
    simp only [storeCells, add_eq]
    rw [run_bind_ok h1]
    exact h2

/-- What an operation that writes comes to. -/
def Writes (P : Program) (ρ : Rho) (s : S) (w : World) (v : Value) (s' : S) (n : Sem Next) : Prop :=
  ∃ n' w' ρ', n.run P w = .ok n' w' ∧ ((∃ v', n' = .value v' ∧ VR ρ' v v') ∨ (n' = .skip ∧ v = undef)) ∧ Rel P ρ' s' w' ∧ Ext No ρ s w ρ' s' w'

theorem Writes.unit {s' : S} {w' : World} {ρ' : Rho} {n : Sem Unit} (h : n.run P w = .ok () w') (hR : Rel P ρ' s' w') (hE : Ext No ρ s w ρ' s' w') :
    Writes P ρ s w undef s' (do n; pure .skip) := ⟨_, w', ρ', unit_run h, .inr ⟨rfl, rfl⟩, hR, hE⟩

theorem Writes.val {s' : S} {w' : World} {ρ' : Rho} {v v' : Value} {n : Sem Value} (h : n.run P w = .ok v' w') (hv : VR ρ' v v') (hR : Rel P ρ' s' w') (hE : Ext No ρ s w ρ' s' w') :
    Writes P ρ s w v s' (do pure (.value (← n))) := ⟨_, w', ρ', val_run h, .inl ⟨v', rfl, hv⟩, hR, hE⟩

theorem single_all {l l' : List Value} (h : VRL ρ l l') (hs : l.all single = true) : l'.all single = true := by
  induction l generalizing l' with
  | nil => cases h; rfl
  | cons a l ih =>
    cases h with
    | cons h1 h2 =>
      simp only [List.all_cons, Bool.and_eq_true] at hs ⊢
      exact ⟨single_rel h1 hs.1, ih h2 hs.2⟩

theorem free_spec {lo hi o n : Nat} (h : free lo hi o n = true) : hi ≤ lo ∨ o + n ≤ lo ∨ hi ≤ o := by
  unfold free at h
  simp only [Bool.and_eq_true, Bool.or_eq_true, Nat.ble_eq] at h
  omega

theorem ro_of_lt {c : List Value} {t lo hi : Nat} (h : Nat.blt hi roHi = true) : (AObj.cells c t lo hi).ro = false := by
  simp only [Nat.blt_eq] at h
  simp only [AObj.ro]
  cases hb : Nat.ble roHi hi with
  | false => rfl
  | true => have := Nat.le_of_ble_eq_true hb; omega

theorem free_ro {c : List Value} {t lo hi o n : Nat} (h : free lo hi o n = true) : (AObj.cells c t lo hi).ro = false := by
  unfold free at h
  simp only [Bool.and_eq_true] at h
  exact ro_of_lt h.1

theorem updL_length {α : Type} : ∀ (vs : List α) (l : List α) (o : Nat), (updL l o vs).length = l.length := by
  intro vs
  induction vs with
  | nil => intro l o; rfl
  | cons v vs ih => intro l o; simp only [updL]; rw [ih, upd_eq, List.length_set]

theorem foldl_set_size (vs : List (Value × Nat)) : ∀ (c : Array Value), (vs.foldl (fun (cs : Array Value) (c : Value × Nat) => cs.setIfInBounds c.2 c.1) c).size = c.size := by
  induction vs with
  | nil => intro c; rfl
  | cons v vs ih => intro c; simp only [List.foldl_cons]; rw [ih]; simp

theorem foldl_set_get (vs : List Value) : ∀ (o : Nat) (c : Array Value) (i : Nat), (i < o ∨ o + vs.length ≤ i) →
    ((vs.zipIdx o).foldl (fun (cs : Array Value) (c : Value × Nat) => cs.setIfInBounds c.2 c.1) c)[i]? = c[i]? := by
  induction vs with
  | nil => intro o c i _; rfl
  | cons v vs ih =>
    intro o c i h
    simp only [List.length_cons] at h
    simp only [List.zipIdx_cons, List.foldl_cons]
    rw [ih (o + 1) _ i (by omega), Array.getElem?_setIfInBounds_ne (by omega)]

/-- Cells are written where the abstract block has some. -/
theorem cells_upd {c vs : List Value} {c' : Array Value} {vs' : List Value} (hl : c.length ≤ c'.size) (hv : ∀ i v, nth c i = some v → ∃ v', c'[i]? = some v' ∧ VR ρ v v') (hvs : VRL ρ vs vs') :
    ∀ (o : Nat), o + vs.length ≤ c.length → ∀ i v, nth (updL c o vs) i = some v →
      ∃ v', ((vs'.zipIdx o).foldl (fun (cs : Array Value) (c : Value × Nat) => cs.setIfInBounds c.2 c.1) c')[i]? = some v' ∧ VR ρ v v' := by
  induction vs generalizing c c' vs' with
  | nil => intro o _ i v h; cases hvs; exact hv i v h
  | cons x vs ih =>
    intro o ho i v h
    simp only [List.length_cons] at ho
    cases hvs with
    | @cons _ x' _ vs' h1 h2 =>
      simp only [List.zipIdx_cons, List.foldl_cons]
      simp only [updL] at h
      refine ih (c := upd c o x) (c' := c'.setIfInBounds o x') (by rw [upd_eq]; simpa using hl) (fun j y hy => ?_) h2 (o + 1) (by rw [upd_eq, List.length_set]; omega) i v h
      rw [upd_eq, nth_eq, List.getElem?_set] at hy
      split at hy
      · rename_i e; subst e
        rw [if_pos (by omega)] at hy
        simp only [Option.some.injEq] at hy; subst hy
        exact ⟨x', (by rw [Array.getElem?_setIfInBounds_self, if_pos (by omega)]), h1⟩
      · rename_i e
        rw [← nth_eq] at hy
        obtain ⟨y', h3, h4⟩ := hv j y hy
        exact ⟨y', by rw [Array.getElem?_setIfInBounds_ne e]; exact h3, h4⟩

/-- Cells behind the abstract block's end are written too. -/
theorem cells_grow {c vs : List Value} {c' : Array Value} {vs' : List Value} (hl : c.length + vs.length ≤ c'.size) (hv : ∀ i v, nth c i = some v → ∃ v', c'[i]? = some v' ∧ VR ρ v v') (hvs : VRL ρ vs vs') :
    ∀ i v, nth (c ++ vs) i = some v → ∃ v', ((vs'.zipIdx c.length).foldl (fun (cs : Array Value) (c : Value × Nat) => cs.setIfInBounds c.2 c.1) c')[i]? = some v' ∧ VR ρ v v' := by
  induction vs generalizing c c' vs' with
  | nil => intro i v h; cases hvs; rw [List.append_nil] at h; exact hv i v h
  | cons x vs ih =>
    intro i v h
    simp only [List.length_cons] at hl
    cases hvs with
    | @cons _ x' _ vs' h1 h2 =>
      simp only [List.zipIdx_cons, List.foldl_cons]
      have := ih (c := c ++ [x]) (c' := c'.setIfInBounds c.length x') (by simp; omega) (fun j y hy => by
        rw [nth_eq, List.getElem?_append] at hy
        split at hy
        · rename_i hlt
          rw [← nth_eq] at hy
          obtain ⟨y', h3, h4⟩ := hv j y hy
          exact ⟨y', by rw [Array.getElem?_setIfInBounds_ne (by omega)]; exact h3, h4⟩
        · rename_i hge
          have hj : j = c.length := by
            have := (List.getElem?_eq_some_iff.1 hy).1
            simp at this; omega
          subst hj
          simp at hy; subst hy
          exact ⟨x', (by rw [Array.getElem?_setIfInBounds_self, if_pos (by omega)]), h1⟩) h2 i v (by simpa using h)
      simpa using this

theorem storeV_sound (hR : Rel P ρ s w) {ty : TypeId} {n : Nat} {x x' y y' : Value} {h' : Heap} (hs : sizeT P ty = some n) (hx : VR ρ x x') (hy : VR ρ y y') (h : storeV s.h n x y = some h') :
    ∃ ad w', x' = .pointer (some ad) ∧ (storeVar ty ad y').run P w = .ok () w' ∧ Rel P ρ { s with h := h' } w' ∧ Ext No ρ s w ρ { s with h := h' } w' := by
  unfold storeV at h
  split at h <;> first | (simp at h; done) | skip
  split at h <;> first | (simp at h; done) | skip
  rename_i c ty0 lo hi hg
  simp only at h
  split at h <;> first | (simp at h; done) | skip
  rename_i hcond
  obtain ⟨h1, h2, h3, h4⟩ := hcond
  simp only [Option.some.injEq] at h; subst h
  cases hx with
  | @ptr b o b' r sp hb =>
    simp only at h2 h4 hg
    obtain ⟨c', f, g1, g2, g3, g4, g5⟩ := cells_of hR hb hg
    have hcl := cellsOf_rel hy
    have hlen := hcl.length
    have hsz : y'.cells.size = n := by simp at hlen; omega
    have hfree := free_spec h4
    obtain ⟨w', h5, h6⟩ := storeCells_run (P := P) (o := o) (f := f) y'.cells.toList 0 c' w g1 (by simp; omega) (single_all hcl h3) (fun k k1 k2 ⟨k3, k4⟩ => by
      have := g5 k k3 k4 (by simp at k2; omega)
      simp at k2
      omega)
    have ho : OR P ρ r (.cells (updL c o (cellsOf y)) ty0 lo hi) (.cells ((y'.cells.toList.zipIdx (o + 0)).foldl (fun (cs : Array Value) (c : Value × Nat) => cs.setIfInBounds c.2 c.1) c') ty0 f) :=
      .cells (by rw [foldl_set_size]; exact g2) (by rw [foldl_set_size, updL_length]; exact g3) (cells_upd g3 g4 hcl o (by omega)) (by rw [foldl_set_size]; exact g5)
    refine ⟨⟨b', o, none⟩, w', rfl, ?_, rel_upd hR hg hb h6 ho, ext_upd No hg hb h6 (free_ro h4)⟩
    unfold storeVar
    rw [run_bind_ok (run_size hs), if_neg (by simp [hsz])]
    exact h5
end
end Ev

/- Soundness of the operations that write memory: maps, iterators, append, copy. -/
namespace Ev
open Go

section
variable {P : Program} {ρ : Rho} {s : S} {w : World} {t : List Value} {a : Act}

theorem L2.append {α β : Type} {R : α → β → Prop} {l l' : List α} {m m' : List β} (h : L2 R l m) (h' : L2 R l' m') : L2 R (l ++ l') (m ++ m') := by
  induction h with
  | nil => exact h'
  | cons a _ ih => exact .cons a ih

theorem L2.set {α β : Type} {R : α → β → Prop} {l : List α} {m : List β} (h : L2 R l m) (i : Nat) {x : α} {y : β} (hx : R x y) : L2 R (upd l i x) (m.set i y) := by
  induction h generalizing i with
  | nil => simpa [upd] using L2.nil
  | cons a _ ih => cases i with
    | zero => exact .cons hx ‹_›
    | succ i => exact .cons a (ih i)

theorem L2.erase {α β : Type} {R : α → β → Prop} {l : List α} {m : List β} (h : L2 R l m) (i : Nat) : L2 R (l.eraseIdx i) (m.eraseIdx i) := by
  induction h generalizing i with
  | nil => simpa using L2.nil
  | cons a _ ih => cases i with
    | zero => assumption
    | succ i => exact .cons a (ih i)

theorem ba_beq (a b : ByteArray) : (a == b) = (a.data == b.data) := rfl
theorem ba_eq {a b : ByteArray} (h : (a == b) = true) : a = b := by
  have h2 : a.data = b.data := by rw [ba_beq] at h; simpa using h
  cases a; cases b; simp at h2; rw [h2]
theorem ba_refl (a : ByteArray) : (a == a) = true := by rw [ba_beq]; simp

theorem key_stays {kk : KK} {x x' y y' : Value} (hx : VR ρ x x') (hy : VR ρ y y') (h : keyEq kk x y = some true) : (Instr.keyThatStays y' x').run P w = .ok x' w := by
  cases kk <;> cases x <;> cases y <;> simp only [keyEq] at h <;> first | (simp at h; done) | skip
  · split at h <;> simp at h
    subst h
    rename_i hk
    cases hx; cases hy
    simp [Instr.keyThatStays, Instr.sameBits, hk]
  · simp only [Option.some.injEq] at h
    have h := ba_eq h
    subst h
    cases hx; cases hy
    simp [Instr.keyThatStays, Instr.sameBits, ba_refl]

theorem arr_modify {es' : Array MapEntry} {i : Nat} {e' : MapEntry} (h : es'[i]? = some e') (f : MapEntry → MapEntry) : (es'.modify i f).toList = es'.toList.set i (f e') := by
  apply List.ext_getElem?
  intro j
  rw [Array.getElem?_toList, Array.getElem?_modify, List.getElem?_set]
  by_cases hij : i = j
  · subst hij
    obtain ⟨hlt, he⟩ := Array.getElem?_eq_some_iff.1 h
    subst he
    simp [hlt]
  · simp [hij]

theorem mapSet_sound (hR : Rel P ρ s w) {ty key el : TypeId} {kk : KK} {x x' v v' : Value} {r r' b : Nat} {es : List MapEntry} {clock : Nat} {s' : S} {u : Value}
    (hu : P.underlying ty = some (.map key el)) (hk : cKey P key = some kk) (hb : ρ r = some (r', b)) (hg : s.h.get r = some (.map es clock)) (hx : VR ρ x x') (hv : VR ρ v v')
    (h : (match find kk x es 0, keyEq kk x x with
        | some (some (i, e)), some _ => some (undef, ({ s with h := s.h.set r (some (.map (upd es i { e with key := x, val := v }) clock)) } : S))
        | some none, some _ => some (undef, { s with h := s.h.set r (some (.map (es ++ [{ key := x, val := v, born := clock }]) (clock + 1))) })
        | _, _ => none) = some (u, s')) :
    u = undef ∧ ∃ w', (Instr.mapUpdate ty (.map (some r')) x' v').run P w = .ok () w' ∧ Rel P ρ s' w' ∧ Ext No ρ s w ρ s' w' := by
  obtain ⟨d, hd, hd'⟩ := cKey_desc hk
  have hck : ∀ b, (Instr.checkKey b 10000 key x').run P w = .ok () w := fun b => checkKey_run hd (hd'.elim (fun h => .inl h.2) (fun h => .inr h.2)) x'
  obtain ⟨es', h1, h2⟩ := map_of hR hb hg
  have hgo := getObj_run (P := P) h1 (by simp)
  split at h <;> first | (simp at h; done) | skip
  · rename_i i e _ hf _
    simp only [Option.some.injEq, Prod.mk.injEq] at h
    obtain ⟨rfl, rfl⟩ := h
    obtain ⟨e', h3, h4, h5, h6, h7⟩ := findKey_run (w := w) hk hx h2 hf
    have h6' : es'[i]? = some e' := by simpa using h6
    have hs := key_stays (P := P) (w := w) hx h4.1 h7
    have hu2 := upd_setObj (w := w) (o2 := .map (es'.modify i fun e => { e with key := x', val := v' }) clock) h1
    refine ⟨rfl, _, ?_, rel_upd hR hg hb hu2 (.map ?_), ext_upd _ hg hb hu2⟩
    · simp only [Instr.mapUpdate]
      rw [run_bind_ok (run_under hu)]
      simp only []
      rw [run_bind_ok hgo]
      simp only []
      rw [run_bind_ok (hck _), run_bind_ok h3]
      simp only [h6', Option.map_some, Option.getD_some]
      rw [run_bind_ok hs]
      exact setObj_run h1 (by simp)
    · rw [arr_modify h6']
      exact h2.set i ⟨hx, hv, h4.2.2⟩
  · rename_i hf _
    simp only [Option.some.injEq, Prod.mk.injEq] at h
    obtain ⟨rfl, rfl⟩ := h
    have h3 := findKey_run (w := w) hk hx h2 hf
    have hu2 := upd_setObj (w := w) (o2 := .map (es'.push { key := x', val := v', born := clock }) (clock + 1)) h1
    refine ⟨rfl, _, ?_, rel_upd hR hg hb hu2 (.map ?_), ext_upd _ hg hb hu2⟩
    · simp only [Instr.mapUpdate]
      rw [run_bind_ok (run_under hu)]
      simp only []
      rw [run_bind_ok hgo]
      simp only []
      rw [run_bind_ok (hck _), run_bind_ok h3]
      exact setObj_run h1 (by simp)
    · rw [Array.toList_push]
      exact h2.append (.cons ⟨hx, hv, rfl⟩ .nil)

theorem mapEntry_sound (hR : Rel P ρ s w) {ty key el : TypeId} {kk : KK} {x x' z : Value} {r r' b : Nat} {es : List MapEntry} {clock : Nat} {s' : S} {u : Value}
    (hu : P.underlying ty = some (.map key el)) (hk : cKey P key = some kk) (hz : zeroT P el = some z) (hcl : closed z = true) (hb : ρ r = some (r', b)) (hg : s.h.get r = some (.map es clock)) (hx : VR ρ x x')
    (h : (match find kk x es 0, keyEq kk x x with
        | some (some (i, e)), some _ => some (.tuple #[e.val, goInt e.born], ({ s with h := s.h.set r (some (.map (upd es i { e with key := x }) clock)) } : S))
        | some none, some _ => some (.tuple #[z, goInt clock], { s with h := s.h.set r (some (.map (es ++ [{ key := x, val := z, born := clock }]) (clock + 1))) })
        | _, _ => none) = some (u, s')) :
    ∃ u' w', (Instr.mapEntry ty (.map (some r')) x').run P w = .ok u' w' ∧ VR ρ u u' ∧ Rel P ρ s' w' ∧ Ext No ρ s w ρ s' w' := by
  obtain ⟨d, hd, hd'⟩ := cKey_desc hk
  have hck : ∀ b, (Instr.checkKey b 10000 key x').run P w = .ok () w := fun b => checkKey_run hd (hd'.elim (fun h => .inl h.2) (fun h => .inr h.2)) x'
  obtain ⟨es', h1, h2⟩ := map_of hR hb hg
  have hgo := getObj_run (P := P) h1 (by simp)
  split at h <;> first | (simp at h; done) | skip
  · rename_i i e _ hf _
    simp only [Option.some.injEq, Prod.mk.injEq] at h
    obtain ⟨rfl, rfl⟩ := h
    obtain ⟨e', h3, h4, h5, h6, h7⟩ := findKey_run (w := w) hk hx h2 hf
    have h6' : es'[i]? = some e' := by simpa using h6
    have hs := key_stays (P := P) (w := w) hx h4.1 h7
    have hu2 := upd_setObj (w := w) (o2 := .map (es'.modify i fun e => { e with key := x' }) clock) h1
    refine ⟨.tuple #[e'.val, goInt e'.born], _, ?_, .tuple (.cons h4.2.1 (.cons (by rw [h4.2.2]; exact .int _ _) .nil)), rel_upd hR hg hb hu2 (.map ?_), ext_upd _ hg hb hu2⟩
    · simp only [Instr.mapEntry]
      rw [run_bind_ok (run_under hu)]
      simp only []
      rw [run_bind_ok hgo]
      simp only []
      rw [run_bind_ok (hck _), run_bind_ok h3]
      simp only [h6', Option.map_some, Option.getD_some]
      rw [run_bind_ok hs, run_bind_ok (setObj_run h1 (by simp))]
      rfl
    · rw [arr_modify h6']
      exact h2.set i ⟨hx, h4.2.1, h4.2.2⟩
  · rename_i hf _
    simp only [Option.some.injEq, Prod.mk.injEq] at h
    obtain ⟨rfl, rfl⟩ := h
    have h3 := findKey_run (w := w) hk hx h2 hf
    have hu2 := upd_setObj (w := w) (o2 := .map (es'.push { key := x', val := z, born := clock }) (clock + 1)) h1
    refine ⟨.tuple #[z, goInt clock], _, ?_, .tuple (.cons (closed_VR hcl) (.cons (.int _ _) .nil)), rel_upd hR hg hb hu2 (.map ?_), ext_upd _ hg hb hu2⟩
    · simp only [Instr.mapEntry]
      rw [run_bind_ok (run_under hu)]
      simp only []
      rw [run_bind_ok hgo]
      simp only []
      rw [run_bind_ok (hck _), run_bind_ok h3]
      simp only []
      rw [run_bind_ok (run_zero hz), run_bind_ok (setObj_run h1 (by simp))]
      rfl
    · rw [Array.toList_push]
      exact h2.append (.cons ⟨hx, closed_VR hcl, rfl⟩ .nil)

theorem find_idx {es es' : List MapEntry} (h : L2 (ER ρ) es es') (p : Nat → Bool) : ∀ {i : Nat} {e : MapEntry}, es.findIdx? (fun e => p e.born) = some i → es.find? (fun e => p e.born) = some e →
    ∃ e', es'.findIdx? (fun e => p e.born) = some i ∧ ER ρ e e' ∧ es'[i]? = some e' := by
  induction h with
  | nil => intro i e hi; simp at hi
  | @cons x y l m hxy _ ih =>
    intro i e hi he
    rw [List.findIdx?_cons] at hi
    rw [List.find?_cons] at he
    rw [List.findIdx?_cons, hxy.2.2]
    cases hb : p x.born with
    | true =>
      simp only [hb, if_true, Option.some.injEq] at hi he ⊢
      subst hi; subst he
      exact ⟨y, rfl, hxy, rfl⟩
    | false =>
      simp only [hb, Bool.false_eq_true, if_false] at hi he ⊢
      cases hj : l.findIdx? (fun e => p e.born) with
      | none => simp [hj] at hi
      | some j =>
        simp [hj] at hi
        subst hi
        obtain ⟨e', h1, h2, h3⟩ := ih hj he
        exact ⟨e', by simp [h1], h2, by simpa using h3⟩

theorem entrySet_sound (hR : Rel P ρ s w) {ty : TypeId} {v v' st' : Value} {k : IntKind} {born : Int} {r r' b : Nat} {es : List MapEntry} {clock : Nat} {s' : S} {u : Value}
    (hb : ρ r = some (r', b)) (hg : s.h.get r = some (.map es clock)) (hst : VR ρ (.int k born) st') (hv : VR ρ v v')
    (h : (match es.findIdx? (fun e => (e.born : Int) == born), es.find? (fun e => (e.born : Int) == born) with
        | some i, some e => some (undef, ({ s with h := s.h.set r (some (.map (upd es i { e with val := v }) clock)) } : S))
        | _, _ => none) = some (u, s')) :
    u = undef ∧ ∃ w', (Instr.entryStore ty (.map (some r')) st' v').run P w = .ok () w' ∧ Rel P ρ s' w' ∧ Ext No ρ s w ρ s' w' := by
  obtain ⟨es', h1, h2⟩ := map_of hR hb hg
  split at h <;> first | (simp at h; done) | skip
  rename_i i e hi he
  simp only [Option.some.injEq, Prod.mk.injEq] at h
  obtain ⟨rfl, rfl⟩ := h
  obtain ⟨e', h3, h4, h5⟩ := find_idx h2 (fun n => (n : Int) == born) hi he
  have h5' : es'[i]? = some e' := by simpa using h5
  have h3' : es'.findIdx? (fun e => (e.born : Int) == born) = some i := by rw [← h3, ← List.findIdx?_toArray]
  have hu2 := upd_setObj (w := w) (o2 := .map (es'.modify i fun e => { e with val := v' }) clock) h1
  refine ⟨rfl, _, ?_, rel_upd hR hg hb hu2 (.map ?_), ext_upd _ hg hb hu2⟩
  · cases hst
    simp only [Instr.entryStore]
    rw [run_bind_ok (getObj_run h1 (by simp))]
    simp only [asInt, asIntOf, pure_bind]
    simp only [h3']
    exact setObj_run h1 (by simp)
  · rw [arr_modify h5']
    exact h2.set i ⟨h4.1, hv, h4.2.2⟩

theorem delete_sound (hR : Rel P ρ s w) {ty key el rt : TypeId} {ts : List TypeId} {kk : KK} {x x' : Value} {r r' b : Nat} {es : List MapEntry} {clock : Nat} {s' : S} {u : Value}
    (hu : P.underlying ty = some (.map key el)) (hk : cKey P key = some kk) (hb : ρ r = some (r', b)) (hg : s.h.get r = some (.map es clock)) (hx : VR ρ x x')
    (h : (match find kk x es 0, keyEq kk x x with
        | some (some (i, _)), some _ => some (.tuple #[], ({ s with h := s.h.set r (some (.map (es.eraseIdx i) clock)) } : S))
        | some none, some _ => some (.tuple #[], s)
        | _, _ => none) = some (u, s')) :
    u = .tuple #[] ∧ ∃ w', (Builtin.delete_ ⟨ty :: ts⟩ rt #[.map (some r'), x']).run P w = .ok (.tuple #[]) w' ∧ Rel P ρ s' w' ∧ Ext No ρ s w ρ s' w' := by
  obtain ⟨d, hd, hd'⟩ := cKey_desc hk
  have hck : ∀ b, (Instr.checkKey b 10000 key x').run P w = .ok () w := fun b => checkKey_run hd (hd'.elim (fun h => .inl h.2) (fun h => .inr h.2)) x'
  obtain ⟨es', h1, h2⟩ := map_of hR hb hg
  have hgo := getObj_run (P := P) h1 (by simp)
  have start : ∀ r : Result Value, (do
      match ← Instr.findKey key x' es'.toList with
      | some (i, _) => setObj r' (.map (es'.eraseIdxIfInBounds i) clock)
      | none => setObj r' (.map es' clock)
      pure (.tuple #[]) : Sem Value).run P w = r → (Builtin.delete_ ⟨ty :: ts⟩ rt #[.map (some r'), x']).run P w = r := by
    intro r hr
    rw [← hr]
    simp only [Builtin.delete_, List.getElem?_toArray, List.getElem?_cons_zero, List.getElem?_cons_succ]
    rw [run_bind_ok (run_under hu)]
    simp only []
    rw [run_bind_ok hgo]
    simp only []
    rw [run_bind_ok (hck _), run_bind, run_bind]
    generalize (Instr.findKey key x' es'.toList).run P w = q
    cases q with
    | ok v w1 => cases v with
      | none => simp [Sem.run_bind]
      | some v => simp [Sem.run_bind]
    | halt h w1 => rfl
  split at h <;> first | (simp at h; done) | skip
  · rename_i i e _ hf _
    simp only [Option.some.injEq, Prod.mk.injEq] at h
    obtain ⟨rfl, rfl⟩ := h
    obtain ⟨e', h3, h4, h5, h6, h7⟩ := findKey_run (w := w) hk hx h2 hf
    have h6' : i < es'.size := by have := (List.getElem?_eq_some_iff.1 h6).1; simpa using this
    have hu2 := upd_setObj (w := w) (o2 := .map (es'.eraseIdxIfInBounds i) clock) h1
    refine ⟨rfl, _, start _ ?_, rel_upd hR hg hb hu2 (.map ?_), ext_upd _ hg hb hu2⟩
    · rw [run_bind_ok h3]
      simp only []
      rw [run_bind_ok (setObj_run h1 (by simp))]
      rfl
    · have : (es'.eraseIdxIfInBounds i).toList = es'.toList.eraseIdx i := by simp [Array.eraseIdxIfInBounds, h6']
      rw [this]
      exact h2.erase i
  · rename_i hf _
    simp only [Option.some.injEq, Prod.mk.injEq] at h
    obtain ⟨rfl, rfl⟩ := h
    have h3 := findKey_run (w := w) hk hx h2 hf
    have hu2 := upd_setObj (w := w) (o2 := .map es' clock) h1
    have hsame : Rel P ρ s { w with heap := w.heap.setIfInBounds r' (.map es' clock) } ∧ Ext No ρ s w ρ s { w with heap := w.heap.setIfInBounds r' (.map es' clock) } := by
      have e : w.heap.setIfInBounds r' (.map es' clock) = w.heap := by
        apply Array.ext_getElem?
        intro i
        by_cases hi : i = r'
        · subst hi
          have := hu2.at_
          simp only at this
          rw [this, h1]
        · rw [Array.getElem?_setIfInBounds_ne (Ne.symm hi)]
      rw [e]
      exact ⟨hR, Ext.refl _ _ _ _⟩
    refine ⟨rfl, _, start _ ?_, hsame.1, hsame.2⟩
    rw [run_bind_ok h3]
    simp only []
    rw [run_bind_ok (setObj_run h1 (by simp))]
    rfl
end
end Ev

/- Soundness of append and copy. -/
namespace Ev
open Go

theorem growBy_le {n B : Nat} (hB : n + (n + 768) / 4 ≤ B) : ∀ (r c : Nat), c ≤ B → Builtin.growBy n r c ≤ B := by
  intro r
  induction r with
  | zero => intro c h; exact h
  | succ r ih =>
    intro c h
    simp only [Builtin.growBy]
    split
    · exact h
    · exact ih _ (by omega)

theorem nextcap_le {n c : Nat} (h : c < n) : Builtin.nextslicecap n c ≤ 2 * n + 200 := by
  unfold Builtin.nextslicecap
  split
  · omega
  · split
    · omega
    · exact growBy_le (by omega) _ _ (by omega)

section
variable {P : Program} {ρ : Rho} {s : S} {w : World} {t : List Value} {a : Act}

theorem append_room {st xt e rt : TypeId} {i : TypeInfo} {base : Option Addr} {n c m : Nat} {x' : Value} (hu : P.underlying st = some (.slice e)) (hx : P.underlying xt = some .string ∨ ∃ e', P.underlying xt = some (.slice e'))
    (hi : P.info? e = some i) (hm : (Builtin.lenOf x').run P w = .ok m w) (h : n + m ≤ c) (r : Result Value)
    (hr : (do let new ← Builtin.firstCells i.size m x'
              if let some a := base then storeCells (a.add (n * i.size)) new.toList
              pure (.slice base (n + m) c) : Sem Value).run P w = r) :
    (Builtin.append_ #[st, xt] rt #[.slice base n c, x']).run P w = r := by
  rw [← hr]
  have hs : sizeT P e = some i.size := by simp [sizeT, hi]
  simp only [Builtin.append_, List.getElem?_toArray, List.getElem?_cons_zero, List.getElem?_cons_succ]
  rw [run_bind_ok (run_under hu)]
  simp only []
  rw [run_bind_ok (run_size hs)]
  rcases hx with hx | ⟨e', hx⟩ <;>
    (rw [run_bind_ok (run_under hx), run_bind_ok (run_pure _)]
     simp only [Bool.false_eq_true, if_false, Bool.not_false, if_true]
     rw [run_bind_ok hm, if_pos h]
     cases base <;> rfl)

theorem append_grow {st xt e rt : TypeId} {i : TypeInfo} {base : Option Addr} {n c m : Nat} {x' z : Value} (hu : P.underlying st = some (.slice e)) (hx : P.underlying xt = some .string ∨ ∃ e', P.underlying xt = some (.slice e'))
    (hi : P.info? e = some i) (hz : i.zero = some z) (hm : (Builtin.lenOf x').run P w = .ok m w) (h : ¬ n + m ≤ c) (hsmall : (n + m) * (i.bytes + 1) ≤ 1099511627776)
    :
    ∃ cap, n + m ≤ cap ∧ ∀ (old new : Array Value), (∀ d, (Builtin.firstCells i.size n (.slice base n c)).run P { w with drawn := d } = .ok old { w with drawn := d }) →
      (∀ d, (Builtin.firstCells i.size m x').run P { w with drawn := d } = .ok new { w with drawn := d }) →
      (Builtin.append_ #[st, xt] rt #[.slice base n c, x']).run P w =
        .ok (.slice (some ⟨w.heap.size, 0, none⟩) (n + m) cap) { w with heap := w.heap.push (.cells (old ++ new ++ Builtin.zeroCells z.cells (cap - (n + m))) e), drawn := w.drawn + 1 } := by
  have hs : sizeT P e = some i.size := by simp [sizeT, hi]
  have hzz : zeroT P e = some z := by simp [zeroT, hi, hz]
  refine ⟨(Question.appendCap (n + m) c e).cut (w.tape w.drawn (Question.appendCap (n + m) c e)), by simp [Question.cut], fun old new ho hn => ?_⟩
  generalize hcap : (Question.appendCap (n + m) c e).cut (w.tape w.drawn (Question.appendCap (n + m) c e)) = cap
  simp only [Builtin.append_, List.getElem?_toArray, List.getElem?_cons_zero, List.getElem?_cons_succ]
  rw [run_bind_ok (run_under hu)]
  simp only []
  rw [run_bind_ok (run_size hs)]
  have hb : (n + m) * i.bytes ≤ (n + m) * (i.bytes + 1) := Nat.mul_le_mul_left _ (by omega)
  have hpos : 1 ≤ n + m := by omega
  have hbb : i.bytes ≤ (n + m) * i.bytes := Nat.le_mul_of_pos_left _ (by omega)
  have hnn : n + m ≤ (n + m) * (i.bytes + 1) := Nat.le_mul_of_pos_right _ (by omega)
  have hle : Builtin.nextslicecap (n + m) c * i.bytes ≤ (2 * (n + m) + 200) * i.bytes := Nat.mul_le_mul_right _ (nextcap_le (by omega))
  have hle2 : (2 * (n + m) + 200) * i.bytes = 2 * ((n + m) * i.bytes) + 200 * i.bytes := by rw [Nat.add_mul, Nat.mul_assoc]
  have hn1 : ¬ (((n + m : Nat) : Int) > IntKind.i64.max ∧ (false = true ∨ i.bytes = 0)) := by simp [IntKind.max, IntKind.signed, IntKind.bits]; omega
  have hn2 : ¬ (Builtin.nextslicecap (n + m) c * i.bytes > 2 ^ 48) := by omega
  have fin : (do
      let newCap ← choose (.appendCap (n + m) c e)
      askRoom (newCap * (← typeInfo e).bytes)
      let old ← Builtin.firstCells i.size n (.slice base n c)
      let new ← Builtin.firstCells i.size m x'
      let rest := Builtin.zeroCells (← zeroValue e).cells (newCap - (n + m))
      pure (Value.slice (some (← newRow e (old ++ new ++ rest))) (n + m) newCap) : Sem Value).run P w =
      .ok (.slice (some ⟨w.heap.size, 0, none⟩) (n + m) cap) { w with heap := w.heap.push (.cells (old ++ new ++ Builtin.zeroCells z.cells (cap - (n + m))) e), drawn := w.drawn + 1 } := by
    rw [run_bind_ok (a := cap) (w' := { w with drawn := w.drawn + 1 }) (by simp only [choose, Sem.run, Question.forced, Bool.false_eq_true, if_false, hcap])]
    rw [run_bind_ok (run_info hi), run_bind_ok (run_askRoom _ _ _), run_bind_ok (ho _), run_bind_ok (hn _), run_bind_ok (run_zero hzz), run_bind_ok (newRow_run _ _)]
    rfl
  rcases hx with hx | ⟨e', hx⟩ <;>
    (rw [run_bind_ok (run_under hx), run_bind_ok (run_pure _)]
     simp only [Bool.false_eq_true, if_false, Bool.not_false, if_true]
     rw [run_bind_ok hm, if_neg h, run_bind_ok (run_info hi), if_neg (by simpa using hn1), run_bind_ok (run_info hi), if_neg hn2]
     exact fin)

theorem run_drawn {o : Obj} {b : Nat} {d : Nat} (h : w.heap[b]? = some o) : ({ w with drawn := d } : World).heap[b]? = some o := h

theorem rel_drawn (hR : Rel P ρ s w) (d : Nat) : Rel P ρ s { w with drawn := d } := ⟨hR.obj, hR.inj, hR.fresh, hR.blk, hR.wf⟩

theorem first_drawn (hR : Rel P ρ s w) {size n : Nat} {x x' : Value} {l : List Value} (hx : VR ρ x x') (h : firstV s.h size n x = some l)
    (hn : ∀ a m c, x = .slice a m c → n ≤ m) (hs : ∀ b, x = .string b → n ≤ b.size) :
    ∃ l', (∀ d, (Builtin.firstCells size n x').run P { w with drawn := d } = .ok l' { w with drawn := d }) ∧ VRL ρ l l'.toList := by
  unfold firstV at h
  split at h <;> first | (simp at h; done) | skip
  · split at h <;> first | (simp at h; done) | skip
    rename_i ad m0 c0 _ c ty lo hi hg
    have key : ∀ b o b' r sp c1, ad = ⟨b, o, sp⟩ → ρ b = some (b', r) → x' = .slice (some ⟨b', o, none⟩) m0 c1 →
        ∃ l', (∀ d, (Builtin.firstCells size n x').run P { w with drawn := d } = .ok l' { w with drawn := d }) ∧ VRL ρ l l'.toList := by
      intro b o b' r sp c1 e1 hb e2
      subst e1; subst e2
      obtain ⟨c', f, h1, _, _, hv, _⟩ := cells_of hR hb hg
      refine ⟨c'.extract o (o + n * size), fun d => ?_, ?_⟩
      · simp only [Builtin.firstCells, loadCells]
        rcases cut_rel hv _ _ _ h with ⟨h2, _⟩ | ⟨h0, _⟩
        · have := loadCells_run (P := P) (w := { w with drawn := d }) h1 (n * size) 0 #[] (by omega)
          rw [this]; simp
        · rw [h0]; simp [loadCellsFrom]; omega
      · rcases cut_rel hv _ _ _ h with ⟨_, h2⟩ | ⟨h0, rfl⟩
        · exact h2
        · rw [h0]; simp; exact .nil
    cases hx with
    | slice hb _ => exact key _ _ _ _ _ _ rfl hb rfl
    | sliceU hb _ _ _ => exact key _ _ _ _ _ _ rfl hb rfl
  · obtain ⟨l', h1, h2⟩ := first_run hR hx (l := l) (size := size) (n := n) (by simpa [firstV] using h) hn hs
    split at h <;> first | (simp at h; done) | skip
    rename_i h0
    subst h0
    cases hx with
    | sliceN => exact ⟨#[], fun d => rfl, by simp only [Option.some.injEq] at h; subst h; exact .nil⟩
    | sliceE a' c' =>
      simp only [Option.some.injEq] at h; subst h
      cases a' with
      | none => exact ⟨#[], (fun d => rfl), .nil⟩
      | some a' => exact ⟨#[], (fun d => by simp [Builtin.firstCells, loadCells, loadCellsFrom]), .nil⟩
  · obtain ⟨l', h1, h2⟩ := first_run hR hx (l := l) (size := size) (n := n) (by simpa [firstV] using h) hn hs
    cases hx
    simp only [Builtin.firstCells] at h1 ⊢
    simp only [run_pure, Result.ok.injEq, and_true] at h1
    subst h1
    exact ⟨_, fun d => rfl, h2⟩

theorem lenOf_run {x x' : Value} {m : Nat} (hx : VR ρ x x') (h : lenOfV x = some m) : (Builtin.lenOf x').run P w = .ok m w := by
  cases x <;> simp only [lenOfV] at h <;> first | (simp at h; done) | skip
  · simp only [Option.some.injEq] at h; subst h; cases hx; rfl
  · simp only [Option.some.injEq] at h; subst h; cases hx <;> rfl

theorem lenOf_le {x : Value} {m : Nat} (h : lenOfV x = some m) : (∀ a k c, x = .slice a k c → m ≤ k) ∧ (∀ b, x = .string b → m ≤ b.size) := by
  cases x <;> simp only [lenOfV] at h <;> first | (simp at h; done) | skip
  all_goals
    simp only [Option.some.injEq] at h; subst h
    refine ⟨?_, ?_⟩
    · intro a k c e; cases e <;> exact Nat.le_refl _
    · intro b e; cases e <;> exact Nat.le_refl _

theorem firstV_len {h : Heap} {size n : Nat} {x : Value} {l : List Value} (hf : firstV h size n x = some l) : l.length = n * size := by
  unfold firstV at hf
  split at hf <;> first | (simp at hf; done) | skip
  · split at hf <;> first | (simp at hf; done) | skip
    exact cut_length _ _ _ _ hf
  · split at hf <;> first | (simp at hf; done) | skip
    rename_i h0
    simp only [Option.some.injEq] at hf; subst hf; subst h0; simp
  · split at hf <;> first | (simp at hf; done) | skip
    rename_i b hc
    simp only [Option.some.injEq] at hf; subst hf
    obtain ⟨h1, rfl⟩ := hc
    have : b.data.size = b.size := rfl
    simp; omega

theorem cut_all' {α : Type} : ∀ (l pre : List α), cut (pre ++ l) pre.length l.length = some l := by
  intro l
  induction l with
  | nil => intro pre; rfl
  | cons x l ih =>
    intro pre
    have e1 : nth (pre ++ x :: l) pre.length = some x := by rw [nth_eq]; simp
    have e2 := ih (pre ++ [x])
    simp only [List.append_assoc, List.singleton_append, List.length_append, List.length_cons, List.length_nil] at e2
    simp only [List.length_cons, cut, e1]
    rw [e2]

theorem cut_all {α : Type} (l : List α) : cut l 0 l.length = some l := by simpa using cut_all' l []

theorem OR_made {c : List Value} {c' rest : Array Value} {ty : TypeId} (h : VRL ρ c c'.toList) : OR P ρ (c' ++ rest).size (.cells c ty 0 0) (.cells (c' ++ rest) ty (0, 0)) := by
  have hl := h.length
  simp at hl
  refine .cells rfl (by simp; omega) (fun i v hv => ?_) (fun i h1 h2 => by simp at h2)
  obtain ⟨v', h1, h2⟩ := h.nth hv
  have hlt := (List.getElem?_eq_some_iff.1 h1).1
  exact ⟨v', by rw [Array.getElem?_append, if_pos (by simpa using hlt)]; simpa using h1, h2⟩

theorem append_sound (hR : Rel P ρ s w) {st xt e rt : TypeId} {i : TypeInfo} {base : Option Addr} {n c m : Nat} {d x x' v z : Value} {new : List Value} {s' : S}
    (hu : P.underlying st = some (.slice e)) (hxt : P.underlying xt = some .string ∨ ∃ e', P.underlying xt = some (.slice e')) (hi : P.info? e = some i) (hz : i.zero = some z) (hzs : z.cells.size = i.size)
    (hd : VR ρ (.slice base n c) d) (hx : VR ρ x x') (hm : lenOfV x = some m) (hnew : firstV s.h i.size m x = some new)
    (h : appendV s e i.size i.bytes base n c m new = some (v, s')) :
    ∃ v' w' ρ', (Builtin.append_ #[st, xt] rt #[d, x']).run P w = .ok v' w' ∧ VR ρ' v v' ∧ Rel P ρ' s' w' ∧ Ext No ρ s w ρ' s' w' := by
  have hml := lenOf_run (P := P) (w := w) hx hm
  have hle := lenOf_le hm
  obtain ⟨new', hn1, hn2⟩ := first_drawn hR hx hnew hle.1 hle.2
  have hn1' : (Builtin.firstCells i.size m x').run P w = .ok new' w := hn1 w.drawn
  have hnl : new.length = new'.size := by have := hn2.length; simpa using this
  unfold appendV at h
  split at h <;> first | (simp at h; done) | skip
  rename_i hcond
  simp only [Decidable.not_not] at hcond
  obtain ⟨hsmall, hpos⟩ := hcond
  cases hlt : Nat.blt c unk with
  | true =>
    have hc : c < unk := by simpa [Nat.blt_eq] using hlt
    simp only [hlt, cond_true] at h
    split at h
    · rename_i hroom
      split at h
      · rename_i hb0
        split at h <;> first | (simp at h; done) | skip
        rename_i hm0
        simp only [Option.some.injEq, Prod.mk.injEq] at h
        obtain ⟨rfl, rfl⟩ := h
        subst hm0
        have hd' : d = .slice none n c := by
          cases hd with
          | sliceN => rfl
          | sliceE => exact absurd hc (by decide)
        subst hd'
        refine ⟨.slice none n c, w, ρ, ?_, .sliceN _ _ hc, hR, Ext.refl _ _ _ _⟩
        refine append_room hu hxt hi hml hroom _ ?_
        rw [run_bind_ok hn1']
        rfl
      · rename_i ad
        split at h <;> first | (simp at h; done) | skip
        rename_i cs ty lo hi' hg
        split at h <;> first | (simp at h; done) | skip
        rename_i hcc
        obtain ⟨h1, h2, h3⟩ := hcc
        simp only [Option.some.injEq, Prod.mk.injEq] at h
        obtain ⟨rfl, rfl⟩ := h
        cases hd with
        | sliceU => exfalso; omega
        | @slice b o b' r _ _ sp hb _ =>
          simp only at h1 h3 hg
          obtain ⟨c', f, g1, g2, g3, g4, g5⟩ := cells_of hR hb hg
          have hlen := firstV_len hnew
          have hfree := free_spec h3
          have hmul : (n + m) * i.size = n * i.size + m * i.size := Nat.add_mul _ _ _
          obtain ⟨w', h5, h6⟩ := storeCells_run (P := P) (o := o + n * i.size) (f := f) new'.toList 0 c' w g1 (by simp; omega) (single_all hn2 h2) (fun k k1 k2 ⟨k3, k4⟩ => by
            simp at k1 k2
            have := g5 k k3 k4 (by omega)
            omega)
          have ho : OR P ρ r (.cells (updL cs (o + n * i.size) new) ty lo hi') (.cells ((new'.toList.zipIdx (o + n * i.size + 0)).foldl (fun (cs : Array Value) (c : Value × Nat) => cs.setIfInBounds c.2 c.1) c') ty f) :=
            .cells (by rw [foldl_set_size]; exact g2) (by rw [foldl_set_size, updL_length]; exact g3) (cells_upd g3 g4 hn2 (o + n * i.size) (by omega)) (by rw [foldl_set_size]; exact g5)
          refine ⟨.slice (some ⟨b', o, none⟩) (n + m) c, w', ρ, ?_, .slice hb hc, rel_upd hR hg hb h6 ho, ext_upd _ hg hb h6 (free_ro h3)⟩
          refine append_room hu hxt hi hml hroom _ ?_
          rw [run_bind_ok hn1']
          simp only [add_eq]
          rw [run_bind_ok h5]
          rfl
    · rename_i hroom
      split at h <;> first | (simp at h; done) | skip
      rename_i old hold
      simp only [Option.some.injEq, Prod.mk.injEq] at h
      obtain ⟨rfl, rfl⟩ := h
      obtain ⟨old', ho1, ho2⟩ := first_drawn hR hd hold (fun a k c e => by cases e; exact Nat.le_refl _) (fun b e => by cases e)
      have hd' : ∃ base', d = .slice base' n c := by
        cases hd with
        | sliceN => exact ⟨_, rfl⟩
        | slice => exact ⟨_, rfl⟩
        | sliceU => exfalso; omega
        | sliceE => exact absurd hc (by decide)
      obtain ⟨base', rfl⟩ := hd'
      obtain ⟨cap, hcap, hrun⟩ := append_grow (rt := rt) (base := base') hu hxt hi hz hml hroom hsmall
      have hrun := hrun old' new' ho1 hn1
      have hsz0 : (old' ++ new').size = (n + m) * i.size := by
        have e1 := firstV_len hnew
        have e2 := firstV_len hold
        have e3 := ho2.length
        rw [Nat.add_mul]; simp at e3 ⊢; omega
      have hp : Push w (.cells (old' ++ new' ++ Builtin.zeroCells z.cells (cap - (n + m))) e) { w with heap := w.heap.push (.cells (old' ++ new' ++ Builtin.zeroCells z.cells (cap - (n + m))) e), drawn := w.drawn + 1 } := ⟨rfl, rfl, rfl, rfl⟩
      have hf := hR.fresh s.c (Nat.le_refl _)
      refine ⟨_, _, ρ.put s.c (w.heap.size, (old' ++ new' ++ Builtin.zeroCells z.cells (cap - (n + m))).size), hrun, .sliceU Rho.put_same hcap ?_ hpos,
        rel_new hR hf (Nat.le_succ _) (Nat.lt_succ_self _) hp (OR_made ?_), ext_new hR hf (Nat.le_succ _) (Nat.lt_succ_self _) (.inr (Nat.le_refl _)) hp⟩
      · rw [Array.size_append, hsz0]
        simp only [Builtin.zeroCells, Array.size_map, Array.size_range, hzs]
        rw [← Nat.add_mul, Nat.zero_add]
        exact Nat.mul_le_mul_right _ (by omega)
      · rw [Array.toList_append]
        exact (ho2.append hn2).mono (Rho.sub_put hf)
  | false =>
    have hc : ¬ c < unk := by
      intro h'
      have : Nat.blt c unk = true := by simpa [Nat.blt_eq] using h'
      rw [hlt] at this; cases this
    simp only [hlt, cond_false] at h
    split at h <;> first | (simp at h; done) | skip
    rename_i ad
    cases hd with
    | slice _ hc' => exact absurd hc' hc
    | @sliceU b o b' r _ c1 e1 sp hb hnc hr he =>
      split at h
      · rename_i hm0
        simp only [Option.some.injEq, Prod.mk.injEq] at h
        obtain ⟨rfl, rfl⟩ := h
        subst hm0
        have hnil : new'.toList = [] := by
          have := firstV_len hnew
          rw [Nat.zero_mul] at this
          have h0 : new'.toList.length = 0 := by rw [Array.length_toList]; omega
          exact List.length_eq_zero_iff.1 h0
        refine ⟨.slice (some ⟨b', o, none⟩) (n + 0) c1, w, ρ, ?_, .sliceU hb hnc hr he, hR, Ext.refl _ _ _ _⟩
        refine append_room hu hxt hi hml (by omega) _ ?_
        rw [run_bind_ok hn1']
        simp only [hnil]
        rfl
      · rename_i hm0
        split at h <;> first | (simp at h; done) | skip
        rename_i cs ty lo hi' hg
        split at h <;> first | (simp at h; done) | skip
        rename_i hcc
        obtain ⟨h1, h2, h3, h4, h5, h6⟩ := hcc
        simp only [Bool.and_eq_true] at h3
        obtain ⟨h3, hlt3⟩ := h3
        simp only [Option.some.injEq, Prod.mk.injEq] at h
        obtain ⟨rfl, rfl⟩ := h
        simp only at h1 hg
        subst h1
        subst h5
        have hes : e1 = i.size := by omega
        subst hes
        obtain ⟨c', f, g1, g2, g3, g4, g5⟩ := cells_of hR hb hg
        have e1 := firstV_len hnew
        have hmul : (n + m) * i.size = n * i.size + m * i.size := Nat.add_mul _ _ _
        have hf := hR.fresh s.c (Nat.le_refl _)
        have hnn : new.length = m * i.size := e1
        by_cases hroom : n + m ≤ c1
        · -- in its place
          have hle1 : (n + m) * i.size ≤ c1 * i.size := Nat.mul_le_mul_right _ hroom
          have hfz := Nat.le_of_ble_eq_true h3
          obtain ⟨w', h7, h8⟩ := storeCells_run (P := P) (o := 0 + n * i.size) (f := f) new'.toList 0 c' w g1 (by simp; omega) (single_all hn2 h4) (fun k k1 k2 ⟨k3, k4⟩ => by
            simp at k1 k2
            have := g5 k k3 k4 (by omega)
            omega)
          have ho : OR P (ρ.put s.c (b', r)) r (.cells (cs ++ new) ty lo hi') (.cells ((new'.toList.zipIdx (0 + n * i.size + 0)).foldl (fun (cs : Array Value) (c : Value × Nat) => cs.setIfInBounds c.2 c.1) c') ty f) :=
            .cells (by rw [foldl_set_size]; exact g2) (by rw [foldl_set_size, List.length_append]; omega)
              (fun j y hy => by
                have := cells_grow (c := cs) (vs := new) (c' := c') (by omega) g4 hn2 j y hy
                rw [show 0 + n * i.size + 0 = cs.length from by omega]
                obtain ⟨y', k1, k2⟩ := this
                exact ⟨y', k1, k2.mono (Rho.sub_put hf)⟩)
              (by rw [foldl_set_size]; exact g5)
          refine ⟨.slice (some ⟨b', 0, none⟩) (n + m) c1, w', ρ.put s.c (b', r), ?_, .sliceU Rho.put_same hroom (by omega) he, rel_move hR hg hb h8 ho, ext_move hR hg hb h8 (ro_of_lt hlt3)⟩
          refine append_room hu hxt hi hml hroom _ ?_
          rw [run_bind_ok hn1']
          simp only [add_eq]
          rw [run_bind_ok h7]
          rfl
        · -- anew
          have hcut : firstV s.h i.size n (.slice (some ⟨b, 0, sp⟩) n (unk + i.size)) = some cs := by
            simp only [firstV, hg]
            rw [h2]
            exact cut_all cs
          obtain ⟨old', ho1, ho2⟩ := first_drawn hR (x := .slice (some ⟨b, 0, sp⟩) n (unk + i.size)) (.sliceU hb hnc hr he) hcut (fun a k c e => by cases e; exact Nat.le_refl _) (fun b e => by cases e)
          obtain ⟨cap, hcap, hrun⟩ := append_grow (rt := rt) (base := some ⟨b', 0, none⟩) hu hxt hi hz hml hroom hsmall
          have hrun := hrun old' new' ho1 hn1
          have hsz0 : (old' ++ new').size = (n + m) * i.size := by
            have e3 := ho2.length
            rw [Nat.add_mul]; simp at e3 ⊢; omega
          have hp : Push w (.cells (old' ++ new' ++ Builtin.zeroCells z.cells (cap - (n + m))) ty) { w with heap := w.heap.push (.cells (old' ++ new' ++ Builtin.zeroCells z.cells (cap - (n + m))) ty), drawn := w.drawn + 1 } := ⟨rfl, rfl, rfl, rfl⟩
          have hR2 := rel_drop hR b
          have hobj : OR P (ρ.put s.c (w.heap.size, (old' ++ new' ++ Builtin.zeroCells z.cells (cap - (n + m))).size)) (old' ++ new' ++ Builtin.zeroCells z.cells (cap - (n + m))).size (.cells (cs ++ new) ty lo hi')
              (.cells (old' ++ new' ++ Builtin.zeroCells z.cells (cap - (n + m))) ty (0, 0)) := by
            have := OR_made (P := P) (ρ := ρ.put s.c (w.heap.size, (old' ++ new' ++ Builtin.zeroCells z.cells (cap - (n + m))).size)) (rest := Builtin.zeroCells z.cells (cap - (n + m))) (ty := ty)
              (c := cs ++ new) (c' := old' ++ new') (by rw [Array.toList_append]; exact (ho2.append hn2).mono (Rho.sub_put hf))
            cases this with
            | cells q1 q2 q3 q4 => exact .cells q1 q2 q3 (fun j k1 k2 => by simp at k2)
          refine ⟨_, _, ρ.put s.c (w.heap.size, (old' ++ new' ++ Builtin.zeroCells z.cells (cap - (n + m))).size), hrun, .sliceU Rho.put_same hcap ?_ he,
            rel_new hR2 hf (Nat.le_succ _) (Nat.lt_succ_self _) hp hobj, (ext_drop No b).trans (ext_new hR2 hf (Nat.le_succ _) (Nat.lt_succ_self _) (.inr (Nat.le_refl _)) hp) (fun _ h => .inl h)⟩
          rw [Array.size_append, hsz0]
          simp only [Builtin.zeroCells, Array.size_map, Array.size_range, hzs]
          rw [← Nat.add_mul, Nat.zero_add]
          exact Nat.mul_le_mul_right _ (by omega)
end
end Ev

/- Soundness of the operations that write memory, together. -/
namespace Ev
open Go

section
variable {P : Program} {ρ : Rho} {s : S} {w : World} {t : List Value} {a : Act}

theorem W_call {c : Call} {o : Oper} {b : Builtin} {v : Value} {s' : S} {n : Sem Value} (hc : c.callee = .builtin b)
    (hb : builtin b c.argTypes o.type (c.args.map fun | .const _ => true | _ => false) (c.args.map a.eval) = (do pure (.value (← n)))) (h : Writes P ρ s w v s' (do pure (.value (← n)))) :
    Writes P ρ s w v s' (do let d ← resolve a.eval c o.type; invoke d.target d.args) := by
  rw [← hb] at h
  unfold resolve
  simp only [hc]
  exact h

theorem copy_sound (hR : Rel P ρ s w) {st xt e rt : TypeId} {size : Nat} {base : Option Addr} {n c m : Nat} {d x x' v : Value} {new : List Value} {s' : S}
    (hu : P.underlying st = some (.slice e)) (hi : sizeT P e = some size)
    (hd : VR ρ (.slice base n c) d) (hx : VR ρ x x') (hm : lenOfV x = some m) (hnew : firstV s.h size (min m n) x = some new)
    (h : (match base with
          | none => some (goInt (min m n : Nat), s)
          | some a => match s.h.get a.block with
            | some (.cells cs ty lo hi) =>
              if c < emp ∧ a.off + min m n * size ≤ cs.length ∧ new.all single = true ∧ free lo hi a.off (min m n * size) = true then
                some (goInt (min m n : Nat), ({ s with h := s.h.set a.block (some (.cells (updL cs a.off new) ty lo hi)) } : S))
              else none
            | _ => none) = some (v, s')) :
    ∃ v' w', (Builtin.copy_ #[st, xt] rt #[d, x']).run P w = .ok v' w' ∧ VR ρ v v' ∧ Rel P ρ s' w' ∧ Ext No ρ s w ρ s' w' := by
  have hml := lenOf_run (P := P) (w := w) hx hm
  have hle := lenOf_le hm
  obtain ⟨new', hn1, hn2⟩ := first_run hR hx hnew (fun a k c e => Nat.le_trans (Nat.min_le_left _ _) (hle.1 a k c e)) (fun b e => Nat.le_trans (Nat.min_le_left _ _) (hle.2 b e))
  have hnl : new.length = new'.size := by have := hn2.length; simpa using this
  have hnl2 := firstV_len hnew
  have start : ∀ (b' : Option Addr) (c' : Nat) (r : Result Value), d = .slice b' n c' → (do
      if let some a := b' then storeCells a new'.toList
      pure (goInt (min m n : Nat)) : Sem Value).run P w = r → (Builtin.copy_ #[st, xt] rt #[d, x']).run P w = r := by
    intro b' c' r e1 hr
    subst e1
    rw [← hr]
    simp only [Builtin.copy_, List.getElem?_toArray, List.getElem?_cons_zero, List.getElem?_cons_succ]
    rw [run_bind_ok (run_under hu)]
    simp only []
    rw [run_bind_ok hml, run_bind_ok (run_size hi), run_bind_ok hn1]
    cases b' <;> rfl
  cases base with
  | none =>
    simp only [Option.some.injEq, Prod.mk.injEq] at h
    obtain ⟨rfl, rfl⟩ := h
    cases hd with
    | sliceN => exact ⟨_, w, start none _ _ rfl rfl, .int _ _, hR, Ext.refl _ _ _ _⟩
    | sliceE a' c' =>
      have hnil : new'.toList = [] := by
        have h0 : new'.toList.length = 0 := by rw [Array.length_toList, ← hnl, hnl2]; simp
        exact List.length_eq_zero_iff.1 h0
      refine ⟨goInt (min m 0 : Nat), w, start a' c' _ rfl ?_, .int _ _, hR, Ext.refl _ _ _ _⟩
      cases a' with
      | none => rfl
      | some a' => simp only [hnil]; rfl
  | some ad =>
    simp only at h
    split at h <;> first | (simp at h; done) | skip
    rename_i cs ty lo hi' hg
    split at h <;> first | (simp at h; done) | skip
    rename_i hcc
    obtain ⟨h0, h1, h2, h3⟩ := hcc
    simp only [Option.some.injEq, Prod.mk.injEq] at h
    obtain ⟨rfl, rfl⟩ := h
    have key : ∀ b o b' r sp c1, ad = ⟨b, o, sp⟩ → ρ b = some (b', r) → d = .slice (some ⟨b', o, none⟩) n c1 →
        ∃ v' w', (Builtin.copy_ #[st, xt] rt #[d, x']).run P w = .ok v' w' ∧ VR ρ (goInt (min m n : Nat)) v' ∧ Rel P ρ { s with h := s.h.set ad.block (some (.cells (updL cs ad.off new) ty lo hi')) } w' ∧
          Ext No ρ s w ρ { s with h := s.h.set ad.block (some (.cells (updL cs ad.off new) ty lo hi')) } w' := by
      intro b o b' r sp c1 e1 hb e2
      subst e1
      simp only at h1 h3 hg ⊢
      obtain ⟨c', f, g1, g2, g3, g4, g5⟩ := cells_of hR hb hg
      have hfree := free_spec h3
      obtain ⟨w', h5, h6⟩ := storeCells_run (P := P) (o := o) (f := f) new'.toList 0 c' w g1 (by simp; omega) (single_all hn2 h2) (fun k k1 k2 ⟨k3, k4⟩ => by
        simp at k1 k2
        have := g5 k k3 k4 (by omega)
        omega)
      have ho : OR P ρ r (.cells (updL cs o new) ty lo hi') (.cells ((new'.toList.zipIdx (o + 0)).foldl (fun (cs : Array Value) (c : Value × Nat) => cs.setIfInBounds c.2 c.1) c') ty f) :=
        .cells (by rw [foldl_set_size]; exact g2) (by rw [foldl_set_size, updL_length]; exact g3) (cells_upd g3 g4 hn2 o (by omega)) (by rw [foldl_set_size]; exact g5)
      refine ⟨goInt (min m n : Nat), w', start _ _ _ e2 ?_, .int _ _, rel_upd hR hg hb h6 ho, ext_upd _ hg hb h6 (free_ro h3)⟩
      simp only []
      rw [run_bind_ok h5]
      rfl
    cases hd with
    | slice hb _ => exact key _ _ _ _ _ _ rfl hb rfl
    | sliceU hb _ _ _ => exact key _ _ _ _ _ _ rfl hb rfl

theorem W_sound {o : Oper} {k : MK} {v : Value} {s' : S} (hR : Rel P ρ s w) (hT : VRL ρ t a.tmps.toList) (hc : cOp P o = some k) (hk : cls k = .w) (hv : evS k t s = some (v, s')) :
    Writes P ρ s w v s' (execOp a.eval o) := by
  unfold cOp at hc
  split at hc <;> first | simp at hc; done | skip
  rename_i hok
  split at hc <;> first | simp at hc; done | skip
  rename_i k' hc0
  split at hc <;> first | simp at hc; done | skip
  rename_i hcl
  simp only [Option.some.injEq] at hc; subst hc
  have ok : ∀ x, x ∈ o.op.operands.toList → okOpd x = true := fun x hx => okOpd_of hok hx
  clear hok
  obtain ⟨dst, op, type, pos, after, guard⟩ := o
  simp only at ok
  unfold cOp0 at hc0
  have hlen : ∀ (c : Call), op = .call c → ∀ x, x ∈ c.args.toList → okOpd x = true := by
    intro c e x hx
    subst e
    exact ok x (by simp only [Op.operands, Call.operands]; cases c.callee <;> simp [hx])
  cases op <;> try (simp at hc0; done)
  case store ty ad x =>
    simp only at hc0
    split at hc0 <;> first | simp at hc0; done | skip
    rename_i n hs
    simp only [Option.some.injEq] at hc0; subst hc0
    simp only [evS] at hv
    split at hv <;> first | (simp at hv; done) | skip
    rename_i u u2 hu hu2
    split at hv <;> first | (simp at hv; done) | skip
    rename_i h' hst
    simp only [Option.some.injEq, Prod.mk.injEq] at hv
    obtain ⟨rfl, rfl⟩ := hv
    obtain ⟨ad', w', h1, h2, h3, h4⟩ := storeV_sound hR hs (eval_sound hT (ok ad (by simp [Op.operands])) hu) (eval_sound hT (ok x (by simp [Op.operands])) hu2) hst
    refine Writes.unit ?_ h3 h4
    simp only [Instr.storeAt, h1, Instr.sureAddr]
    rw [run_bind_ok (run_pure _)]
    exact h2
  case mapUpdate ty m x vv =>
    simp only at hc0
    split at hc0 <;> first | simp at hc0; done | skip
    rename_i key el hu
    split at hc0 <;> first | simp at hc0; done | skip
    rename_i kk hkk
    simp only [Option.some.injEq] at hc0; subst hc0
    simp only [evS] at hv
    split at hv <;> first | (simp at hv; done) | skip
    rename_i r u2 u3 hu1 hu2 hu3
    split at hv <;> first | (simp at hv; done) | skip
    rename_i es clock hg
    have vm := eval_sound hT (ok m (by simp [Op.operands])) hu1
    have vx := eval_sound hT (ok x (by simp [Op.operands])) hu2
    have vv' := eval_sound hT (ok vv (by simp [Op.operands])) hu3
    cases hmm : a.eval m <;> rw [hmm] at vm <;> cases vm
    rename_i r' b hb
    obtain ⟨rfl, w', h1, h2, h3⟩ := mapSet_sound hR hu hkk hb hg vx vv' hv
    refine Writes.unit ?_ h2 h3
    rw [hmm]
    exact h1
  case mapEntry ty m x =>
    simp only at hc0
    split at hc0 <;> first | simp at hc0; done | skip
    rename_i key el hu
    split at hc0 <;> first | simp at hc0; done | skip
    rename_i kk z hkk hz
    split at hc0 <;> first | simp at hc0; done | skip
    rename_i hcz
    simp only [Option.some.injEq] at hc0; subst hc0
    simp only [evS] at hv
    split at hv <;> first | (simp at hv; done) | skip
    rename_i r u2 hu1 hu2
    split at hv <;> first | (simp at hv; done) | skip
    rename_i es clock hg
    have vm := eval_sound hT (ok m (by simp [Op.operands])) hu1
    have vx := eval_sound hT (ok x (by simp [Op.operands])) hu2
    cases hmm : a.eval m <;> rw [hmm] at vm <;> cases vm
    rename_i r' b hb
    obtain ⟨u', w', h1, h2, h3, h4⟩ := mapEntry_sound hR hu hkk hz hcz hb hg vx hv
    refine Writes.val ?_ h2 h3 h4
    rw [hmm]
    exact h1
  case entryStore ty m st vv =>
    simp only [Option.some.injEq] at hc0; subst hc0
    simp only [evS] at hv
    split at hv <;> first | (simp at hv; done) | skip
    rename_i r kb born u3 hu1 hu2 hu3
    split at hv <;> first | (simp at hv; done) | skip
    rename_i es clock hg
    have vm := eval_sound hT (ok m (by simp [Op.operands])) hu1
    have vx := eval_sound hT (ok st (by simp [Op.operands])) hu2
    have vv' := eval_sound hT (ok vv (by simp [Op.operands])) hu3
    cases hmm : a.eval m <;> rw [hmm] at vm <;> cases vm
    rename_i r' b hb
    obtain ⟨rfl, w', h1, h2, h3⟩ := entrySet_sound (ty := ty) hR hb hg vx vv' hv
    refine Writes.unit ?_ h2 h3
    rw [hmm]
    exact h1
  case range ty x =>
    have hx := ok x (by simp [Op.operands])
    simp only at hc0
    split at hc0 <;> first | simp at hc0; done | skip
    · simp only [Option.some.injEq] at hc0; subst hc0; simp [cls] at hk
    · rename_i kt et hu
      simp only [Option.some.injEq] at hc0; subst hc0
      have hf := hR.fresh s.c (Nat.le_refl _)
      simp only [evS] at hv
      split at hv <;> first | (simp at hv; done) | skip
      · rename_i hu1
        simp only [Option.some.injEq, Prod.mk.injEq] at hv
        obtain ⟨rfl, rfl⟩ := hv
        have vm := eval_sound hT hx hu1
        have hp : Push w (.mapIter none 0 #[] 0) { w with heap := w.heap.push (.mapIter none 0 #[] 0) } := ⟨rfl, rfl, rfl, rfl⟩
        refine Writes.val (v' := .pointer (some ⟨w.heap.size, 0, none⟩)) ?_ (.ptr Rho.put_same) (rel_new (r := 0) hR hf (Nat.le_succ _) (Nat.lt_succ_self _) hp (.mapIterN 0 [] 0))
          (ext_new hR hf (Nat.le_succ _) (Nat.lt_succ_self _) (.inr (Nat.le_refl _)) hp)
        generalize a.eval x = x' at vm
        cases vm
        simp only [Instr.range]
        rw [run_bind_ok (run_under hu)]
        simp
      · rename_i r hu1
        split at hv <;> first | (simp at hv; done) | skip
        rename_i es clock hg
        simp only [Option.some.injEq, Prod.mk.injEq] at hv
        obtain ⟨rfl, rfl⟩ := hv
        have vm := eval_sound hT hx hu1
        generalize hxx : a.eval x = x' at vm
        cases vm with
        | @map _ r' b hb =>
          obtain ⟨es', h1, h2⟩ := map_of hR hb hg
          have hp : Push w (.mapIter (some r') clock #[] clock) { w with heap := w.heap.push (.mapIter (some r') clock #[] clock) } := ⟨rfl, rfl, rfl, rfl⟩
          refine Writes.val (v' := .pointer (some ⟨w.heap.size, 0, none⟩)) ?_ (.ptr Rho.put_same) (rel_new (r := 0) hR hf (Nat.le_succ _) (Nat.lt_succ_self _) hp (.mapIter (Rho.sub_put hf _ _ hb) clock [] clock))
            (ext_new hR hf (Nat.le_succ _) (Nat.lt_succ_self _) (.inr (Nat.le_refl _)) hp)
          rw [hxx]
          simp only [Instr.range]
          rw [run_bind_ok (run_under hu)]
          simp only []
          rw [run_bind_ok (getObj_run h1 (by simp))]
          simp
  case next it isStr =>
    cases isStr with
    | false => simp at hc0; subst hc0; simp [cls] at hk
    | true =>
      simp at hc0; subst hc0
      simp only [evS] at hv
      split at hv <;> first | (simp at hv; done) | skip
      rename_i r sp hu
      split at hv <;> first | (simp at hv; done) | skip
      rename_i b pos' hg
      have vx := eval_sound hT (ok it (by simp [Op.operands])) hu
      cases hxx : a.eval it <;> rw [hxx] at vx <;> cases vx
      rename_i b' rr hb
      obtain ⟨o', h1, h2⟩ := hR.obj _ _ _ _ hg hb
      cases h2
      have hgo := getObj_run (P := P) h1 (by simp)
      split at hv
      · rename_i hlt
        simp only [Option.some.injEq, Prod.mk.injEq] at hv
        obtain ⟨rfl, rfl⟩ := hv
        have hu2 := upd_setObj (w := w) (o2 := .stringIter b (pos' + (Utf8.decode b pos').2)) h1
        refine Writes.val (v' := .tuple #[.bool true, goInt pos', .int .i32 (Utf8.decode b pos').1]) ?_ (.tuple (.cons (.bool _) (.cons (.int _ _) (.cons (.int _ _) .nil))))
          (rel_upd hR hg hb hu2 (.strIter b _)) (ext_upd _ hg hb hu2)
        rw [hxx]
        simp only [Instr.next]
        rw [run_bind_ok hgo]
        simp only [if_pos hlt]
        rw [run_bind_ok (setObj_run h1 (by simp))]
        rfl
      · rename_i hlt
        simp only [Option.some.injEq, Prod.mk.injEq] at hv
        obtain ⟨rfl, rfl⟩ := hv
        refine Writes.val (v' := .tuple #[.bool false]) ?_ (.tuple (.cons (.bool _) .nil)) hR (Ext.refl _ _ _ _)
        rw [hxx]
        simp only [Instr.next]
        rw [run_bind_ok hgo]
        simp only [if_neg hlt]
        rfl
  case call c =>
    simp only [cCall] at hc0
    split at hc0
    · simp only [Option.some.injEq] at hc0; subst hc0; simp [cls] at hk
    · simp only [Option.some.injEq] at hc0; subst hc0; simp [cls] at hk
    rename_i b hb
    have ha := hlen c rfl
    have arr : ∀ {α : Type} {xs : Array α} {l : List α}, xs.toList = l → xs = ⟨l⟩ := fun h => by rw [← h]
    have app : ∀ (st xt e : TypeId) (i : TypeInfo) (z : Value) (s0 x0 : Operand), b = .append → c.argTypes.toList = [st, xt] → c.args.toList = [s0, x0] → P.underlying st = some (.slice e) →
        (P.underlying xt = some .string ∨ ∃ e', P.underlying xt = some (.slice e')) → P.info? e = some i → i.zero = some z → z.cells.size = i.size → k' = .append e i.size i.bytes s0 x0 →
        Writes P ρ s w v s' (do let d ← resolve a.eval c type; invoke d.target d.args) := by
      intro st xt e i z s0 x0 hbe hty hax hu hxu hi hz hzs hk'
      subst hk'; subst hbe
      have e1 := arr hty
      have e2 := arr hax
      refine W_call (o := ⟨dst, .call c, type, pos, after, guard⟩) hb (n := Builtin.append_ c.argTypes type (c.args.map a.eval)) rfl ?_
      rw [e1, e2]
      simp only [List.map_toArray, List.map_cons, List.map_nil]
      simp only [evS] at hv
      split at hv <;> first | (simp at hv; done) | skip
      rename_i base n0 c0 u2 hu1 hu2
      split at hv <;> first | (simp at hv; done) | skip
      rename_i m hm
      split at hv <;> first | (simp at hv; done) | skip
      rename_i new hnew
      have vd := eval_sound hT (ha s0 (by rw [hax]; simp)) hu1
      have vx := eval_sound hT (ha x0 (by rw [hax]; simp)) hu2
      obtain ⟨v', w', ρ', h1, h2, h3, h4⟩ := append_sound (rt := type) hR hu hxu hi hz hzs vd vx hm hnew hv
      exact Writes.val h1 h2 h3 h4
    split at hc0
    · (repeat' (split at hc0)) <;> first | (simp at hc0; done) | (simp only [Option.some.injEq] at hc0; subst hc0; simp [cls] at hk; done)
    · (repeat' (split at hc0)) <;> first | (simp at hc0; done) | (simp only [Option.some.injEq] at hc0; subst hc0; simp [cls] at hk; done)
    · rename_i st xt s0 x0 hty hax
      split at hc0 <;> first | (simp at hc0; done) | skip
      · rename_i e e' hu hxu
        split at hc0 <;> first | (simp at hc0; done) | skip
        rename_i i hi
        split at hc0 <;> first | (simp at hc0; done) | skip
        rename_i z hz
        split at hc0 <;> first | (simp at hc0; done) | skip
        rename_i hzs
        simp only [Option.some.injEq] at hc0
        exact app _ _ _ _ _ _ _ rfl hty hax hu (.inr ⟨_, hxu⟩) hi hz hzs hc0.symm
      · rename_i e hu hxu
        split at hc0 <;> first | (simp at hc0; done) | skip
        rename_i i hi
        split at hc0 <;> first | (simp at hc0; done) | skip
        rename_i z hz
        split at hc0 <;> first | (simp at hc0; done) | skip
        rename_i hzs
        simp only [Option.some.injEq] at hc0
        exact app _ _ _ _ _ _ _ rfl hty hax hu (.inl hxu) hi hz hzs hc0.symm
    · rename_i st xt d0 x0 hty hax
      split at hc0 <;> first | (simp at hc0; done) | skip
      rename_i e hu
      split at hc0 <;> first | (simp at hc0; done) | skip
      rename_i n hs
      simp only [Option.some.injEq] at hc0; subst hc0
      have e1 := arr hty
      have e2 := arr hax
      refine W_call (o := ⟨dst, .call c, type, pos, after, guard⟩) hb (n := Builtin.copy_ c.argTypes type (c.args.map a.eval)) rfl ?_
      rw [e1, e2]
      simp only [List.map_toArray, List.map_cons, List.map_nil]
      simp only [evS] at hv
      split at hv <;> first | (simp at hv; done) | skip
      rename_i base n0 c0 u2 hu1 hu2
      split at hv <;> first | (simp at hv; done) | skip
      rename_i m hm
      split at hv <;> first | (simp at hv; done) | skip
      rename_i new hnew
      have vd := eval_sound hT (ha d0 (by rw [hax]; simp)) hu1
      have vx := eval_sound hT (ha x0 (by rw [hax]; simp)) hu2
      obtain ⟨v', w', h1, h2, h3, h4⟩ := copy_sound (rt := type) (xt := xt) hR hu hs vd vx hm hnew (by cases base <;> exact hv)
      exact Writes.val h1 h2 h3 h4
    · rename_i ty ts m0 x0 hty hax
      split at hc0 <;> first | (simp at hc0; done) | skip
      rename_i key el hu
      split at hc0 <;> first | (simp at hc0; done) | skip
      rename_i kk hkk
      simp only [Option.some.injEq] at hc0; subst hc0
      have e1 := arr hty
      have e2 := arr hax
      refine W_call (o := ⟨dst, .call c, type, pos, after, guard⟩) hb (n := Builtin.delete_ c.argTypes type (c.args.map a.eval)) rfl ?_
      rw [e1, e2]
      simp only [List.map_toArray, List.map_cons, List.map_nil]
      simp only [evS] at hv
      split at hv <;> first | (simp at hv; done) | skip
      · rename_i u2 hu1 hu2
        split at hv <;> first | (simp at hv; done) | skip
        simp only [Option.some.injEq, Prod.mk.injEq] at hv
        obtain ⟨rfl, rfl⟩ := hv
        have vd := eval_sound hT (ha m0 (by rw [hax]; simp)) hu1
        refine Writes.val (v' := .tuple #[]) ?_ (.tuple .nil) hR (Ext.refl _ _ _ _)
        generalize a.eval m0 = m' at vd
        cases vd
        obtain ⟨d, hd, hd'⟩ := cKey_desc hkk
        have hck : (Instr.checkKey true 10000 key (a.eval x0)).run P w = .ok () w := checkKey_run hd (hd'.elim (fun h => .inl h.2) (fun h => .inr h.2)) _
        simp only [Builtin.delete_, List.getElem?_toArray, List.getElem?_cons_zero, List.getElem?_cons_succ]
        rw [run_bind_ok (run_under hu)]
        simp only []
        rw [run_bind_ok hck]
        rfl
      · rename_i r u2 hu1 hu2
        split at hv <;> first | (simp at hv; done) | skip
        rename_i es clock hg
        have vd := eval_sound hT (ha m0 (by rw [hax]; simp)) hu1
        have vx := eval_sound hT (ha x0 (by rw [hax]; simp)) hu2
        cases hmm : a.eval m0 <;> rw [hmm] at vd <;> cases vd
        rename_i r' bb hb
        obtain ⟨rfl, w', h1, h2, h3⟩ := delete_sound (rt := type) (ts := ts) hR hu hkk hb hg vx hv
        exact Writes.val h1 (.tuple .nil) h2 h3
    · rename_i ty m0 hty hax
      split at hc0 <;> first | (simp at hc0; done) | skip
      rename_i key el hu
      simp only [Option.some.injEq] at hc0; subst hc0
      have e1 := arr hty
      have e2 := arr hax
      refine W_call (o := ⟨dst, .call c, type, pos, after, guard⟩) hb (n := Builtin.clear_ c.argTypes type (c.args.map a.eval)) rfl ?_
      rw [e1, e2]
      simp only [List.map_toArray, List.map_cons, List.map_nil]
      simp only [evS] at hv
      split at hv <;> first | (simp at hv; done) | skip
      · rename_i hu1
        simp only [Option.some.injEq, Prod.mk.injEq] at hv
        obtain ⟨rfl, rfl⟩ := hv
        have vd := eval_sound hT (ha m0 (by rw [hax]; simp)) hu1
        refine Writes.val (v' := .tuple #[]) ?_ (.tuple .nil) hR (Ext.refl _ _ _ _)
        generalize a.eval m0 = m' at vd
        cases vd
        simp only [Builtin.clear_, List.getElem?_toArray, List.getElem?_cons_zero]
        rw [run_bind_ok (run_under hu)]
        rfl
      · rename_i r hu1
        split at hv <;> first | (simp at hv; done) | skip
        rename_i es clock hg
        simp only [Option.some.injEq, Prod.mk.injEq] at hv
        obtain ⟨rfl, rfl⟩ := hv
        have vd := eval_sound hT (ha m0 (by rw [hax]; simp)) hu1
        generalize a.eval m0 = m' at vd
        cases vd with
        | map hb =>
          obtain ⟨es', h1, h2⟩ := map_of hR hb hg
          have hu2 := upd_setObj (w := w) (o2 := .map #[] clock) h1
          refine Writes.val (v' := .tuple #[]) ?_ (.tuple .nil) (rel_upd hR hg hb hu2 (.map .nil)) (ext_upd _ hg hb hu2)
          simp only [Builtin.clear_, List.getElem?_toArray, List.getElem?_cons_zero]
          rw [run_bind_ok (run_under hu)]
          rw [run_bind_ok (getObj_run h1 (by simp)), run_bind_ok (setObj_run h1 (by simp))]
          rfl
    all_goals
      (repeat' (split at hc0)) <;> first
        | (simp at hc0; done)
        | (simp only [Option.some.injEq] at hc0; subst hc0; simp [cls] at hk; done)
  case makeMap ty r => cases r <;> simp at hc0; subst hc0; simp [cls] at hk
  case makeFunc fn first captured => cases fn <;> simp at hc0; subst hc0; simp [cls] at hk
  case binOp op ty x y yt =>
    simp only at hc0
    unfold cBin cEqOp at hc0
    (repeat' (split at hc0)) <;> first
      | (simp at hc0; done)
      | (simp only [Option.some.injEq] at hc0; subst hc0; simp [cls] at hk; done)
  all_goals
    (try simp only at hc0)
    (repeat' (split at hc0)) <;> first
      | (simp at hc0; done)
      | (simp only [Option.some.injEq] at hc0; subst hc0; simp [cls] at hk; done)
end
end Ev

/- Single steps of the machine, of one goroutine, for frames in a round or not. -/
namespace Ev
open Go

def fr (b : Frame) (t : Array Value) (d : List Deferred) (todo : List Item) : Frame := { b with tmps := t, defers := d, todo := todo, mode := .run }

section
variable {P : Program} {b : Frame} {t : Array Value} {d : List Deferred} {k : List Item} {cs : List Frame} {w : World}

theorem fr_eval (x : Operand) : (fr b t d k).eval x = Act.eval ⟨t, d⟩ x := by cases x <;> rfl
theorem fr_eval' : (fr b t d k).eval = Act.eval ⟨t, d⟩ := funext fr_eval

theorem st_skip : step P (lone (fr b t d (.code .skip :: k)) cs w) = .next (lone (fr b t d k) cs w) := step_lone_go (by simp [stepG, stepG.exec, fr])
theorem st_label {l : Nat} : step P (lone (fr b t d (.code (.label l) :: k)) cs w) = .next (lone (fr b t d k) cs w) := step_lone_go (by simp [stepG, stepG.exec, fr])
theorem st_inBlock {id : Nat} : step P (lone (fr b t d (.inBlock id :: k)) cs w) = .next (lone (fr b t d k) cs w) := step_lone_go (by simp [stepG, stepG.exec, fr])
theorem st_inScope {c : Code} : step P (lone (fr b t d (.inScope c :: k)) cs w) = .next (lone (fr b t d k) cs w) := step_lone_go (by simp [stepG, stepG.exec, fr])
theorem st_seq {x y : Code} : step P (lone (fr b t d (.code (.seq x y) :: k)) cs w) = .next (lone (fr b t d (.code x :: .code y :: k)) cs w) := step_lone_go (by simp [stepG, stepG.exec, fr])
theorem st_cond {c : Operand} {x y : Code} {q : Bool} (h : Act.eval ⟨t, d⟩ c = .bool q) :
    step P (lone (fr b t d (.code (.cond c x y) :: k)) cs w) = .next (lone (fr b t d (.code (if q then x else y) :: k)) cs w) :=
  step_lone_go (by
    have := fr_eval (b := b) (t := t) (d := d) (k := .code (.cond c x y) :: k) c
    simp only [fr] at this
    simp [stepG, stepG.exec, fr, this, h])
theorem st_block {id : Nat} {c : Code} : step P (lone (fr b t d (.code (.block id c) :: k)) cs w) = .next (lone (fr b t d (.code c :: .inBlock id :: k)) cs w) := step_lone_go (by simp [stepG, stepG.exec, fr])
theorem st_scope {c : Code} : step P (lone (fr b t d (.code (.scope c) :: k)) cs w) = .next (lone (fr b t d (.code c :: .inScope c :: k)) cs w) := step_lone_go (by simp [stepG, stepG.exec, fr])
theorem st_loop {c : Code} : step P (lone (fr b t d (.code (.loop c) :: k)) cs w) = .next (lone (fr b t d (.code c :: .inLoop c :: k)) cs w) := step_lone_go (by simp [stepG, stepG.exec, fr])
theorem st_inLoop {c : Code} : step P (lone (fr b t d (.inLoop c :: k)) cs w) = .next (lone (fr b t d (.code c :: .inLoop c :: k)) cs w) := step_lone_go (by simp [stepG, stepG.exec, fr])
theorem st_exit {id : Nat} {k' : List Item} (h : exitTo id k = some k') : step P (lone (fr b t d (.code (.exit id) :: k)) cs w) = .next (lone (fr b t d k') cs w) :=
  step_lone_go (by simp [stepG, stepG.exec, fr, h])
theorem st_ret (hr : b.roundOf = none) : step P (lone (fr b t d (.code .ret :: k)) cs w) = .next (lone { fr b t d (.code .ret :: k) with mode := .returning } cs w) :=
  step_lone_go (by simp [stepG, stepG.exec, fr, hr])
theorem st_end (hr : b.roundOf = none) : step P (lone (fr b t d []) cs w) = .next (lone { fr b t d [] with mode := .returning } cs w) :=
  step_lone_go (by simp [stepG, stepG.exec, fr, hr])
theorem st_region {id : Nat} {ops : Array Oper} : step P (lone (fr b t d (.code (.region id ops false) :: k)) cs w) = .next (lone (fr b t d (.inRegion ops (List.range ops.size) :: k)) cs w) :=
  step_lone_go (by simp [stepG, stepG.exec, fr])
theorem st_region_draw {id : Nat} {ops : Array Oper} : step P (lone (fr b t d (.code (.region id ops true) :: k)) cs w) =
    .next (lone (fr b t d (.inRegion ops (Region.schedule (P.follows .mixedOrders) ops (w.tape w.drawn (.order b.fn id))) :: k)) cs { w with drawn := w.drawn + 1 }) :=
  step_lone_go (by simp [stepG, stepG.exec, fr, choose, Sem.run, Question.forced, Question.cut])
theorem st_region_end {ops : Array Oper} : step P (lone (fr b t d (.inRegion ops [] :: k)) cs w) = .next (lone (fr b t d k) cs w) := step_lone_go (by simp [stepG, stepG.exec, fr])

def putT (t : Array Value) (dst : Option Tmp) (v : Value) : Array Value := match dst with
  | some d => t.setIfInBounds d v
  | none => t

theorem fr_finish {ops : Array Oper} {i : Nat} {rest : List Nat} {o : Oper} (ho : ops[i]? = some o) (v : Value) :
    (fr b t d (.inRegion ops (i :: rest) :: k)).finish v = fr b (putT t o.dst v) d (.inRegion ops rest :: k) := by
  obtain ⟨dst, op, type, pos, after, guard⟩ := o
  cases dst <;> simp [Frame.finish, fr, ho, putT]

theorem st_unwanted {ops : Array Oper} {i : Nat} {rest : List Nat} {o : Oper} (ho : ops[i]? = some o) (hw : Region.wanted o (yielded ops t) = false) :
    step P (lone (fr b t d (.inRegion ops (i :: rest) :: k)) cs w) = .next (lone (fr b (putT t o.dst undef) d (.inRegion ops rest :: k)) cs w) := by
  rw [← fr_finish ho]
  exact step_lone_go (by simp [stepG, stepG.exec, fr, ho, hw])

section op
variable {ops : Array Oper} {i : Nat} {rest : List Nat} {o : Oper} (ho : ops[i]? = some o) (hw : Region.wanted o (yielded ops t) = true) (hd : b.roundOf = none ∨ ∀ c, o.op ≠ .defer c)
include ho hw hd

theorem stG_op : stepG P true { frame := fr b t d (.inRegion ops (i :: rest) :: k), callers := cs, status := .running, dying := none } w =
    stepG.apply P true (fr b t d (.inRegion ops (i :: rest) :: k)) cs none (execOp (Act.eval ⟨t, d⟩) o) w := by
  have he := fr_eval' (b := b) (t := t) (d := d) (k := .inRegion ops (i :: rest) :: k)
  simp only [fr] at he
  obtain ⟨dst, op, type, pos, after, guard⟩ := o
  have : ∀ l, b.roundOf = some l → ∀ c, op ≠ .defer c := fun l h c => by
    rcases hd with h' | h'
    · rw [h] at h'; cases h'
    · exact h' c
  simp only [stepG, stepG.exec, stepG.oper, Frame.oper?, fr, ho, Option.map_some, Option.getD_some, hw, if_true, he]
  cases hb : b.roundOf with
  | none => rfl
  | some l =>
    cases op <;> first
      | rfl
      | exact absurd rfl (this l hb _)

theorem st_value {v : Value} {w' : World} (hr : (execOp (Act.eval ⟨t, d⟩) o).run P w = .ok (.value v) w') :
    step P (lone (fr b t d (.inRegion ops (i :: rest) :: k)) cs w) = .next (lone (fr b (putT t o.dst v) d (.inRegion ops rest :: k)) cs w') := by
  rw [← fr_finish ho]
  exact step_lone_go (by rw [stG_op ho hw hd]; simp [stepG.apply, hr])

theorem st_skipped {w' : World} (hr : (execOp (Act.eval ⟨t, d⟩) o).run P w = .ok .skip w') :
    step P (lone (fr b t d (.inRegion ops (i :: rest) :: k)) cs w) = .next (lone (fr b (putT t o.dst undef) d (.inRegion ops rest :: k)) cs w') := by
  rw [← fr_finish ho]
  exact step_lone_go (by rw [stG_op ho hw hd]; simp [stepG.apply, hr])

theorem st_enter {f : FuncId} {args : Array Value} {w' : World} (hr : (execOp (Act.eval ⟨t, d⟩) o).run P w = .ok (.enter f args) w') :
    step P (lone (fr b t d (.inRegion ops (i :: rest) :: k)) cs w) = .next (lone (Frame.enter P f args .normal) (fr b t d (.inRegion ops (i :: rest) :: k) :: cs) w') :=
  step_lone_go (by rw [stG_op ho hw hd]; simp [stepG.apply, hr, fr])

theorem st_round {l f : Nat} {tm : Array Value} {asg body : Code} {w' : World} (hr : (execOp (Act.eval ⟨t, d⟩) o).run P w = .ok (.round l f tm asg body) w') :
    step P (lone (fr b t d (.inRegion ops (i :: rest) :: k)) cs w) = .next (lone (Frame.round l f tm asg body .normal) (fr b t d (.inRegion ops (i :: rest) :: k) :: cs) w') :=
  step_lone_go (by rw [stG_op ho hw hd]; simp [stepG.apply, hr])

theorem st_defer {df : Deferred} {w' : World} (hr : (execOp (Act.eval ⟨t, d⟩) o).run P w = .ok (.defer df) w') :
    step P (lone (fr b t d (.inRegion ops (i :: rest) :: k)) cs w) = .next (lone (fr b (putT t o.dst undef) (df :: d) (.inRegion ops rest :: k)) cs w') := by
  rw [← fr_finish ho]
  exact step_lone_go (by rw [stG_op ho hw hd]; simp [stepG.apply, hr, fr])

theorem st_recover {w' : World} (hr : (execOp (Act.eval ⟨t, d⟩) o).run P w = .ok .recover w') (hb : b.roundOf = none) :
    step P (lone (fr b t d (.inRegion ops (i :: rest) :: k)) cs w) = match tryRecover (fr b t d (.inRegion ops (i :: rest) :: k)) cs with
      | some (v, cs') => .next (lone (fr b (putT t o.dst v) d (.inRegion ops rest :: k)) cs' w')
      | none => .next (lone (fr b (putT t o.dst .nilIface) d (.inRegion ops rest :: k)) cs w') := by
  have hb' : (fr b t d (.inRegion ops (i :: rest) :: k)).roundOf = none := hb
  cases ht : tryRecover (fr b t d (.inRegion ops (i :: rest) :: k)) cs with
  | none =>
    simp only []
    rw [← fr_finish ho]
    exact step_lone_go (by rw [stG_op ho hw hd]; simp [stepG.apply, hr, hb', ht])
  | some x =>
    obtain ⟨v, cs'⟩ := x
    simp only []
    rw [← fr_finish ho]
    exact step_lone_go (by rw [stG_op ho hw hd]; simp [stepG.apply, hr, hb', ht])

theorem st_panic {v : Value} {w' : World} (hr : (execOp (Act.eval ⟨t, d⟩) o).run P w = .halt (.panic v) w') :
    step P (lone (fr b t d (.inRegion ops (i :: rest) :: k)) cs w) = .next (lone { fr b t d (.inRegion ops (i :: rest) :: k) with mode := .panicking [{ v, recovered := false }] } cs w') :=
  step_lone_go (by rw [stG_op ho hw hd]; simp [stepG.apply, hr, Frame.raise, fr])
end op
end
end Ev
